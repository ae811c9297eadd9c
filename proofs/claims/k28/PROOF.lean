import PyProof.Rows.All
import HandS.ForMost
import HandS.Flow
import HandS.Defaults
import HandS.Exc
import HandS.ExcOwn
import HandS.TryOnly
import HandS.TryMany
import HandS.WordsExc
import HandS.TupAny
import HandS.TupLe
import HandS.Wide
import HandS.Style
import HandS.IsInst
import HandS.SortInts
import HandS.More
import HandS.RaiseMore
import HandS.CallSlots
import HandS.Deep
import HandS.Dict
import HandS.TupLen
import HandS.WordsDict
import HandS.Rev
import KE.SortData
import HandS.Iter
import HandS.DictTup
import HandS.AnyAll
import KE.DataMinMax
import HandS.Zip
import HandS.DictComp
import KE.KDictDisplayH
import HandS.Ends
import HandS.EndBits
import HandS.HeadHook1
import HandS.HeadHook2
import HandS.HeadHook3
import HandS.HeadHook4
import HandS.Words
import HandS.Head0
import Wide.All
import OpenK.AllK
import Wide.FinOn
import KE.KStateDown
import HandS.Head1
import HandS.Head2
import HandS.HeadEnd
import PySem.Challenge.RW_wholecurves_k28_whole_traces_at_matrices
set_option Elab.async false
set_option linter.all false
set_option maxRecDepth 100000
set_option maxHeartbeats 2000000
/-! Deep values over the hand layer: what a value of the abstract heap stands for as plain data, with the addresses of the changeable objects that it rests on. -/
namespace DV
open PySem L2

/-- a key of a dict as data -/
def keyD : Key → PyData
  | .inl i => .int i
  | .inr x => .str x
def keyT (k : List Key) : PyData := .tuple (k.map keyD)

/-- a list among the module's own objects (the script may be one) -/
def KL (K : PySem.W.Frag) (a : Addr) (xs : List V) : Prop :=
  ∃ (o : Obj) (its : Array Value) (n : Nat), K.lookup a = some o ∧ o.cls = .type "list" ∧ o.dict = none ∧ o.data = .seq its n ∧ its.size ≤ sizeLine ∧ Vals xs its.toList

mutual
/-- v stands for d; F: the lists and dicts that it rests on -/
inductive Rep (K : PySem.W.Frag) (H : Hp) : V → PyData → List Addr → Prop
  | non : Rep K H .non .none []
  | bl (b : Bool) : Rep K H (.bl b) (.bool b) []
  | int (i : Int) : Rep K H (.int i) (.int i) []
  | str (x : Str) : Rep K H (.str x) (.str x) []
  | tup {a : Addr} {vs : List V} {ds : List PyData} {F : List Addr} : H a = some (.tup vs) → RepL K H vs ds F → Rep K H (.ref a) (.tuple ds) F
  /-- a tuple of the module's constants -/
  | con {a : Addr} {ns : List Int} : SqT K H a (ns.map V.int) → Rep K H (.ref a) (.dict [(.none, .tuple (ns.map PyData.int))]) []
  | lst {a : Addr} {vs : List V} {ds : List PyData} {F : List Addr} : H a = some (.lst vs) → RepL K H vs ds F → Rep K H (.ref a) (.list ds) (a :: F)
  | frz {a : Addr} {o : Obj} {ns : List Int} : H a = some (.frz o (.lst (ns.map V.int))) → Rep K H (.ref a) (.list (ns.map PyData.int)) []
  | lsc {a : Addr} {ns : List Int} : KL K a (ns.map V.int) → Rep K H (.ref a) (.list (ns.map PyData.int)) []
  | dctK {a : Addr} {kvs : List (Key × V)} {ds : List PyData} {F : List Addr} : Rd H a (.dK kvs) → RepL K H (kvs.map (·.2)) ds F → Rep K H (.ref a) (.dict ((kvs.map fun p => keyD p.1).zip ds)) (a :: F)
  | dctT {a : Addr} {kvs : List (List Key × V)} {ds : List PyData} {F : List Addr} : Rd H a (.dT kvs) → RepL K H (kvs.map (·.2)) ds F → Rep K H (.ref a) (.dict ((.none, .none) :: (kvs.map fun p => keyT p.1).zip ds)) (a :: F)
inductive RepL (K : PySem.W.Frag) (H : Hp) : List V → List PyData → List Addr → Prop
  | nil : RepL K H [] [] []
  | cons {v : V} {vs : List V} {d : PyData} {ds : List PyData} {F G : List Addr} : Rep K H v d F → RepL K H vs ds G → RepL K H (v :: vs) (d :: ds) (F ++ G)
end

/-- an object that may be written -/
def MutA (H : Hp) (a : Addr) : Prop := (∃ xs, H a = some (.lst xs)) ∨ (∃ kvs, H a = some (.dK kvs)) ∨ ∃ kvs, H a = some (.dT kvs)
theorem MutA.mut {H : Hp} {a : Addr} (h : MutA H a) : Mut (H a) := by
  rcases h with ⟨_, e⟩ | ⟨_, e⟩ | ⟨_, e⟩ <;> rw [e] <;> trivial
theorem MutA.ne {H : Hp} {a : Addr} (h : MutA H a) : H a ≠ none := by
  rcases h with ⟨_, e⟩ | ⟨_, e⟩ | ⟨_, e⟩ <;> rw [e] <;> exact fun z => nomatch z

/-- all objects but those at w are kept -/
def Keep (w : Addr → Prop) (H H' : Hp) : Prop := ∀ a o, H a = some o → ¬ w a → H' a = some o
theorem Keep.refl {w : Addr → Prop} {H : Hp} : Keep w H H := fun _ _ e _ => e
theorem Keep.mono {w w' : Addr → Prop} {H H' : Hp} (h : Keep w H H') (hw : ∀ a, w a → w' a) : Keep w' H H' := fun a o e n => h a o e fun z => n (hw a z)
theorem Keep.trans {w w' : Addr → Prop} {H H1 H2 : Hp} (h : Keep w H H1) (h2 : Keep w' H1 H2) (hw : ∀ a, H a ≠ none → w' a → w a) : Keep w H H2 := fun a o e n =>
  h2 a o (h a o e n) fun z => n (hw a (by rw [e]; exact fun q => nomatch q) z)
theorem Keep.new {w : Addr → Prop} {H : Hp} {p : Addr} {o : HO} (h : H p = none) : Keep w H (upd H p o) := fun a u e _ => by
  rw [upd_ne (ne_of_none e h)]
  exact e
theorem Keep.same {w : Addr → Prop} {H H' : Hp} (h : Same H H') : Keep w H H' := fun a o e _ => h a o e
theorem Keep.write {w : Addr → Prop} {H : Hp} {p : Addr} {o : HO} (h : w p) : Keep w H (upd H p o) := fun a u e n => by
  rw [upd_ne fun z => n (by rw [z]; exact h)]
  exact e
theorem Keep.rd {w : Addr → Prop} {H H' : Hp} {a : Addr} {u : HO} (h : Keep w H H') (n : ¬ w a) (r : Rd H a u) : Rd H' a u := by
  rcases r with r | ⟨o, r⟩
  · exact .inl (h a _ r n)
  · exact .inr ⟨o, h a _ r n⟩
theorem Keep.sqT {K : PySem.W.Frag} {w : Addr → Prop} {H H' : Hp} {a : Addr} {vs : List V} (h : Keep w H H') (hw : ∀ a, w a → MutA H a) (r : SqT K H a vs) : SqT K H' a vs := by
  rcases r with r | r
  · refine .inl (h.rd (fun z => ?_) r)
    rcases hw a z with ⟨_, e⟩ | ⟨_, e⟩ | ⟨_, e⟩ <;> rcases r with r | ⟨o, r⟩ <;> rw [e] at r <;> cases r
  · exact .inr r

/-- all objects are kept, dicts may be locked -/
def isD : HO → Bool
  | .dK _ => true
  | .dT _ => true
  | _ => false
def KF (H H' : Hp) : Prop := ∀ a o, H a = some o → H' a = some o ∨ (isD o = true ∧ ∃ od, H' a = some (.frz od o))
theorem KF.refl {H : Hp} : KF H H := fun _ _ e => .inl e
theorem KF.keep {w : Addr → Prop} {H H1 H2 : Hp} (h : KF H H1) (k : Keep w H1 H2) (hw : ∀ a, w a → H a = none) : KF H H2 := fun a o e => by
  have nw : ¬ w a := fun z => by rw [hw a z] at e; cases e
  rcases h a o e with q | ⟨i, od, q⟩
  · exact .inl (k a _ q nw)
  · exact .inr ⟨i, od, k a _ q nw⟩
theorem KF.trans {H H1 H2 : Hp} (h : KF H H1) (k : KF H1 H2) : KF H H2 := fun a o e => by
  rcases h a o e with q | ⟨i, od, q⟩
  · exact k a o q
  · rcases k a _ q with q | ⟨z, _⟩
    · exact .inr ⟨i, od, q⟩
    · cases z
theorem KF.of {H H' : Hp} (h : Keep (fun _ => False) H H') : KF H H' := fun a o e => .inl (h a o e id)
theorem KF.rdK {H H' : Hp} (h : KF H H') {a : Addr} {kvs : List (Key × V)} (r : Rd H a (.dK kvs)) : Rd H' a (.dK kvs) := by
  rcases r with r | ⟨o, r⟩
  · rcases h a _ r with q | ⟨_, od, q⟩
    · exact .inl q
    · exact .inr ⟨od, q⟩
  · rcases h a _ r with q | ⟨z, _⟩
    · exact .inr ⟨o, q⟩
    · cases z
theorem KF.rdT {H H' : Hp} (h : KF H H') {a : Addr} {kvs : List (List Key × V)} (r : Rd H a (.dT kvs)) : Rd H' a (.dT kvs) := by
  rcases r with r | ⟨o, r⟩
  · rcases h a _ r with q | ⟨_, od, q⟩
    · exact .inl q
    · exact .inr ⟨od, q⟩
  · rcases h a _ r with q | ⟨z, _⟩
    · exact .inr ⟨o, q⟩
    · cases z
theorem KF.get {H H' : Hp} (h : KF H H') {a : Addr} {o : HO} (e : H a = some o) (n : isD o = false) : H' a = some o := by
  rcases h a o e with q | ⟨z, _⟩
  · exact q
  · rw [n] at z
    cases z
theorem KF.sqT {K : PySem.W.Frag} {H H' : Hp} (h : KF H H') {a : Addr} {vs : List V} (r : SqT K H a vs) : SqT K H' a vs := by
  rcases r with (r | ⟨o, r⟩) | r
  · exact .inl (.inl (h.get r rfl))
  · exact .inl (.inr ⟨o, h.get r rfl⟩)
  · exact .inr r
mutual
theorem Rep.kf {K : PySem.W.Frag} {H H' : Hp} (h : KF H H') : ∀ {v : V} {d : PyData} {F : List Addr}, Rep K H v d F → Rep K H' v d F
  | _, _, _, .non => .non
  | _, _, _, .bl b => .bl b
  | _, _, _, .int i => .int i
  | _, _, _, .str x => .str x
  | _, _, _, .tup r l => .tup (h.get r rfl) (RepL.kf h l)
  | _, _, _, .con r => .con (h.sqT r)
  | _, _, _, .lst e l => .lst (h.get e rfl) (RepL.kf h l)
  | _, _, _, .frz e => .frz (h.get e rfl)
  | _, _, _, .lsc e => .lsc e
  | _, _, _, .dctK r l => .dctK (h.rdK r) (RepL.kf h l)
  | _, _, _, .dctT r l => .dctT (h.rdT r) (RepL.kf h l)
theorem RepL.kf {K : PySem.W.Frag} {H H' : Hp} (h : KF H H') : ∀ {vs : List V} {ds : List PyData} {F : List Addr}, RepL K H vs ds F → RepL K H' vs ds F
  | _, _, _, .nil => .nil
  | _, _, _, .cons r l => .cons (Rep.kf h r) (RepL.kf h l)
end
mutual
theorem Rep.keep {K : PySem.W.Frag} {w : Addr → Prop} {H H' : Hp} (h : Keep w H H') (hw : ∀ a, w a → MutA H a) : ∀ {v : V} {d : PyData} {F : List Addr}, Rep K H v d F → (∀ a ∈ F, ¬ w a) → Rep K H' v d F
  | _, _, _, .non, _ => .non
  | _, _, _, .bl b, _ => .bl b
  | _, _, _, .int i, _ => .int i
  | _, _, _, .str x, _ => .str x
  | _, _, _, .tup r l, n => .tup (h _ _ r fun z => by rcases hw _ z with ⟨_, q⟩ | ⟨_, q⟩ | ⟨_, q⟩ <;> rw [r] at q <;> cases q) (RepL.keep h hw l n)
  | _, _, _, .con r, n => .con (h.sqT hw r)
  | _, _, _, .lst e l, n => .lst (h _ _ e (n _ List.mem_cons_self)) (RepL.keep h hw l fun a ha => n a (List.mem_cons_of_mem _ ha))
  | _, _, _, .frz e, _ => .frz (h _ _ e fun z => by rcases hw _ z with ⟨_, q⟩ | ⟨_, q⟩ | ⟨_, q⟩ <;> rw [e] at q <;> cases q)
  | _, _, _, .lsc e, _ => .lsc e
  | _, _, _, .dctK r l, n => .dctK (h.rd (n _ List.mem_cons_self) r) (RepL.keep h hw l fun a ha => n a (List.mem_cons_of_mem _ ha))
  | _, _, _, .dctT r l, n => .dctT (h.rd (n _ List.mem_cons_self) r) (RepL.keep h hw l fun a ha => n a (List.mem_cons_of_mem _ ha))
theorem RepL.keep {K : PySem.W.Frag} {w : Addr → Prop} {H H' : Hp} (h : Keep w H H') (hw : ∀ a, w a → MutA H a) : ∀ {vs : List V} {ds : List PyData} {F : List Addr}, RepL K H vs ds F → (∀ a ∈ F, ¬ w a) → RepL K H' vs ds F
  | _, _, _, .nil, _ => .nil
  | _, _, _, .cons r l, n => .cons (Rep.keep h hw r fun a ha => n a (List.mem_append_left _ ha)) (RepL.keep h hw l fun a ha => n a (List.mem_append_right _ ha))
end
mutual
theorem Rep.trk {K : PySem.W.Frag} {H : Hp} : ∀ {v : V} {d : PyData} {F : List Addr}, Rep K H v d F → ∀ a ∈ F, H a ≠ none
  | _, _, _, .tup _ l => RepL.trk l
  | _, _, _, .lst e l => fun a ha => by
    rcases List.mem_cons.mp ha with rfl | ha
    · rw [e]; exact fun z => nomatch z
    · exact RepL.trk l a ha
  | _, _, _, .dctK r l => fun a ha => by
    rcases List.mem_cons.mp ha with rfl | ha
    · rcases r with e | ⟨o, e⟩ <;> rw [e] <;> exact fun z => nomatch z
    · exact RepL.trk l a ha
  | _, _, _, .dctT r l => fun a ha => by
    rcases List.mem_cons.mp ha with rfl | ha
    · rcases r with e | ⟨o, e⟩ <;> rw [e] <;> exact fun z => nomatch z
    · exact RepL.trk l a ha
  | _, _, _, .non => fun _ h => nomatch h
  | _, _, _, .bl _ => fun _ h => nomatch h
  | _, _, _, .int _ => fun _ h => nomatch h
  | _, _, _, .str _ => fun _ h => nomatch h
  | _, _, _, .frz _ => fun _ h => nomatch h
  | _, _, _, .lsc _ => fun _ h => nomatch h
  | _, _, _, .con _ => fun _ h => nomatch h
theorem RepL.trk {K : PySem.W.Frag} {H : Hp} : ∀ {vs : List V} {ds : List PyData} {F : List Addr}, RepL K H vs ds F → ∀ a ∈ F, H a ≠ none
  | _, _, _, .nil => fun _ h => nomatch h
  | _, _, _, .cons r l => fun a ha => (List.mem_append.mp ha).elim (Rep.trk r a) (RepL.trk l a)
end
theorem RepL.length {K : PySem.W.Frag} {H : Hp} : ∀ {vs : List V} {ds : List PyData} {F : List Addr}, RepL K H vs ds F → vs.length = ds.length
  | _, _, _, .nil => rfl
  | _, _, _, .cons _ l => by rw [List.length_cons, List.length_cons, RepL.length l]
/-- the i-th one -/
theorem RepL.get {K : PySem.W.Frag} {H : Hp} : ∀ {vs : List V} {ds : List PyData} {F : List Addr} {i : Nat} {d : PyData}, RepL K H vs ds F → ds[i]? = some d → ∃ v G, vs[i]? = some v ∧ Rep K H v d G ∧ ∀ a ∈ G, a ∈ F
  | _, _, _, i, _, .nil, e => by simp at e
  | _, _, _, 0, _, .cons r l, e => by
    simp at e
    subst e
    exact ⟨_, _, rfl, r, fun a ha => List.mem_append_left _ ha⟩
  | _, _, _, i + 1, _, .cons r l, e => by
    obtain ⟨v, G, h1, h2, h3⟩ := RepL.get (i := i) l (by simpa using e)
    exact ⟨v, G, by simpa using h1, h2, fun a ha => List.mem_append_right _ (h3 a ha)⟩
theorem RepL.append {K : PySem.W.Frag} {H : Hp} : ∀ {vs us : List V} {ds es : List PyData} {F G : List Addr}, RepL K H vs ds F → RepL K H us es G → RepL K H (vs ++ us) (ds ++ es) (F ++ G)
  | _, _, _, _, _, _, .nil, h => h
  | _, _, _, _, _, _, .cons r l, h => by
    rw [List.append_assoc]
    exact .cons r (RepL.append l h)
/-- any list of places picks out what is there -/
theorem RepL.of_all {K : PySem.W.Frag} {H : Hp} {F : List Addr} : ∀ {vs : List V} {ds : List PyData}, vs.length = ds.length → (∀ (i : Nat) (v : V) (d : PyData), vs[i]? = some v → ds[i]? = some d → ∃ G, Rep K H v d G ∧ ∀ a ∈ G, a ∈ F) → ∃ G, RepL K H vs ds G ∧ ∀ a ∈ G, a ∈ F
  | [], [], _, _ => ⟨[], .nil, fun _ h => nomatch h⟩
  | [], _ :: _, h, _ => by simp at h
  | _ :: _, [], h, _ => by simp at h
  | v :: vs, d :: ds, h, k => by
    obtain ⟨G, r, s⟩ := k 0 v d rfl rfl
    obtain ⟨G', r', s'⟩ := RepL.of_all (vs := vs) (ds := ds) (by simpa using h) fun i u e h1 h2 => k (i + 1) u e (by simpa using h1) (by simpa using h2)
    exact ⟨G ++ G', .cons r r', fun a ha => (List.mem_append.mp ha).elim (s a) (s' a)⟩
theorem RepL.at {K : PySem.W.Frag} {H : Hp} : ∀ {vs : List V} {ds : List PyData} {F : List Addr} {i : Nat} {v : V} {d : PyData}, RepL K H vs ds F → vs[i]? = some v → ds[i]? = some d → ∃ G, Rep K H v d G ∧ ∀ a ∈ G, a ∈ F := fun {vs ds F i v d} h e1 e2 => by
  obtain ⟨u, G, h1, h2, h3⟩ := h.get e2
  rw [e1] at h1
  cases h1
  exact ⟨G, h2, h3⟩
theorem RepL.take {K : PySem.W.Frag} {H : Hp} {vs : List V} {ds : List PyData} {F : List Addr} (h : RepL K H vs ds F) (n : Nat) : ∃ G, RepL K H (vs.take n) (ds.take n) G ∧ ∀ a ∈ G, a ∈ F := by
  refine RepL.of_all (by rw [List.length_take, List.length_take, h.length]) fun i v d e1 e2 => ?_
  rw [List.getElem?_take] at e1 e2
  split at e1
  · rename_i hlt
    rw [if_pos hlt] at e2
    exact h.at e1 e2
  · cases e1
theorem RepL.drop {K : PySem.W.Frag} {H : Hp} {vs : List V} {ds : List PyData} {F : List Addr} (h : RepL K H vs ds F) (n : Nat) : ∃ G, RepL K H (vs.drop n) (ds.drop n) G ∧ ∀ a ∈ G, a ∈ F := by
  refine RepL.of_all (by rw [List.length_drop, List.length_drop, h.length]) fun i v d e1 e2 => ?_
  rw [List.getElem?_drop] at e1 e2
  exact h.at e1 e2
theorem RepL.reverse {K : PySem.W.Frag} {H : Hp} {vs : List V} {ds : List PyData} {F : List Addr} (h : RepL K H vs ds F) : ∃ G, RepL K H vs.reverse ds.reverse G ∧ ∀ a ∈ G, a ∈ F := by
  refine RepL.of_all (by rw [List.length_reverse, List.length_reverse, h.length]) fun i v d e1 e2 => ?_
  have hl := h.length
  have hi : i < vs.length := by
    have := (List.getElem?_eq_some_iff.mp e1).1
    simpa using this
  rw [List.getElem?_reverse hi] at e1
  rw [List.getElem?_reverse (by omega)] at e2
  rw [← hl] at e2
  exact h.at e1 e2
theorem RepL.set {K : PySem.W.Frag} {H : Hp} {vs : List V} {ds : List PyData} {F G : List Addr} {v : V} {d : PyData} (h : RepL K H vs ds F) (i : Nat) (r : Rep K H v d G) : ∃ G', RepL K H (vs.set i v) (ds.set i d) G' ∧ ∀ a ∈ G', a ∈ F ∨ a ∈ G := by
  obtain ⟨G', h1, h2⟩ := RepL.of_all (K := K) (H := H) (F := F ++ G) (vs := vs.set i v) (ds := ds.set i d) (by rw [List.length_set, List.length_set, h.length]) fun j u e e1 e2 => by
    by_cases hj : i = j
    · subst hj
      have hlt : i < vs.length := by
        have := (List.getElem?_eq_some_iff.mp e1).1
        simpa using this
      rw [List.getElem?_set_self hlt] at e1
      rw [List.getElem?_set_self (by rw [← h.length]; exact hlt)] at e2
      cases e1
      cases e2
      exact ⟨G, r, fun a ha => List.mem_append_right _ ha⟩
    · rw [List.getElem?_set_ne hj] at e1 e2
      obtain ⟨G', q, s⟩ := h.at e1 e2
      exact ⟨G', q, fun a ha => List.mem_append_left _ (s a ha)⟩
  exact ⟨G', h1, fun a ha => List.mem_append.mp (h2 a ha)⟩

mutual
/-- what rests on no changeable object -/
def isImm : PyData → Bool
  | .tuple xs => isImmL xs
  | .list _ => false
  | .dict _ => false
  | _ => true
def isImmL : List PyData → Bool
  | [] => true
  | x :: xs => isImm x && isImmL xs
end
mutual
theorem Rep.imm {K : PySem.W.Frag} {H : Hp} : ∀ {v : V} {d : PyData} {F : List Addr}, Rep K H v d F → isImm d = true → F = []
  | _, _, _, .non, _ => rfl
  | _, _, _, .bl _, _ => rfl
  | _, _, _, .int _, _ => rfl
  | _, _, _, .str _, _ => rfl
  | _, _, _, .tup _ l, e => RepL.imm l (by simpa [isImm] using e)
  | _, _, _, .lst _ _, e => by simp [isImm] at e
  | _, _, _, .frz _, e => rfl
  | _, _, _, .lsc _, e => rfl
  | _, _, _, .con _, e => rfl
  | _, _, _, .dctK _ _, e => by simp [isImm] at e
  | _, _, _, .dctT _ _, e => by simp [isImm] at e
theorem RepL.imm {K : PySem.W.Frag} {H : Hp} : ∀ {vs : List V} {ds : List PyData} {F : List Addr}, RepL K H vs ds F → isImmL ds = true → F = []
  | _, _, _, .nil, _ => rfl
  | _, _, _, .cons r l, e => by
    simp only [isImmL, Bool.and_eq_true] at e
    rw [Rep.imm r e.1, RepL.imm l e.2]
    rfl
end

theorem dpAll_ints {K : PySem.W.Frag} {H : Hp} : ∀ ns : List Int, DpAll K H (ns.map V.int) (ns.map PyData.int)
  | [] => .nil
  | n :: r => .cons (.int n) (dpAll_ints r)
mutual
/-- as the layer's data, dicts apart -/
theorem Rep.dp {K : PySem.W.Frag} {H : Hp} : ∀ {v : V} {d : PyData} {F : List Addr}, Rep K H v d F → d.canLay0 = true → Dp K H v d
  | _, _, _, .non, _ => .non
  | _, _, _, .bl b, _ => .bl b
  | _, _, _, .int i, _ => .int i
  | _, _, _, .str x, _ => .str x
  | _, _, _, .con _, e => by simp [PyData.canLay0] at e
  | _, _, _, .tup r l, e => .tup (SqT.of r) (RepL.dp l (by simpa [PyData.canLay0] using e))
  | _, _, _, .lst h l, e => .lst (SqL.of h) (RepL.dp l (by simpa [PyData.canLay0] using e))
  | _, _, _, .frz (ns := ns) h, _ => .lst (.inl (.inr ⟨_, h⟩)) (dpAll_ints ns)
  | _, _, _, .lsc (ns := ns) h, _ => .lst (.inr h) (dpAll_ints ns)
  | _, _, _, .dctK _ _, e => by simp [PyData.canLay0] at e
  | _, _, _, .dctT _ _, e => by simp [PyData.canLay0] at e
theorem RepL.dp {K : PySem.W.Frag} {H : Hp} : ∀ {vs : List V} {ds : List PyData} {F : List Addr}, RepL K H vs ds F → PyData.canLayAll0 ds = true → DpAll K H vs ds
  | _, _, _, .nil, _ => .nil
  | _, _, _, .cons r l, e => by
    simp only [PyData.canLayAll0, Bool.and_eq_true] at e
    exact .cons (Rep.dp r e.1) (RepL.dp l e.2)
end
theorem repL_ints {K : PySem.W.Frag} {H : Hp} : ∀ ns : List Int, RepL K H (ns.map V.int) (ns.map PyData.int) []
  | [] => .nil
  | n :: r => .cons (.int n) (repL_ints r)
end DV

set_option Elab.async false
set_option linter.all false
set_option maxRecDepth 100000
set_option maxHeartbeats 2000000
namespace DV
open PySem L2

abbrev Env := List (Option PyData)
/-- what a piece of code comes to -/
inductive Rs (α : Type) where
  | ok (a : α) (e : Env)
  | exc (c : Str) (v : PyData) (e : Env)
  | bad
def Rs.bind {α β : Type} (m : Rs α) (k : α → Env → Rs β) : Rs β := match m with
  | .ok a e => k a e
  | .exc c v e => .exc c v e
  | .bad => .bad
def Rs.wp {α : Type} (m : Rs α) (Q : α → Env → Prop) (W : Str → PyData → Env → Prop) : Prop := match m with
  | .ok a e => Q a e
  | .exc c v e => W c v e
  | .bad => False
theorem wp_bind {α β : Type} (m : Rs α) (k : α → Env → Rs β) (Q : β → Env → Prop) (W : Str → PyData → Env → Prop) : (m.bind k).wp Q W = m.wp (fun a e => (k a e).wp Q W) W := by
  cases m <;> rfl
theorem wp_mono {α : Type} {m : Rs α} {Q Q' : α → Env → Prop} {W : Str → PyData → Env → Prop} (h : m.wp Q W) (k : ∀ a e, Q a e → Q' a e) : m.wp Q' W := by
  cases m with
  | ok a e => exact k a e h
  | exc c v e => exact h
  | bad => exact h
/-- a value that is there, or nothing -/
def Rs.of {α : Type} (o : Option α) (e : Env) : Rs α := match o with
  | some a => .ok a e
  | none => .bad
theorem wp_of {α : Type} {o : Option α} {e : Env} {Q : α → Env → Prop} {W : Str → PyData → Env → Prop} (h : (Rs.of o e).wp Q W) : ∃ a, o = some a ∧ Q a e := by
  cases o with
  | none => exact h.elim
  | some a => exact ⟨a, rfl, h⟩

def isC : PyData → Bool
  | .list _ => true
  | .dict _ => true
  | _ => false
def inner (d : PyData) (F : List Addr) : List Addr := if isC d = true then F.tail else F
theorem inner_sub {d : PyData} {F : List Addr} {a : Addr} (h : a ∈ inner d F) : a ∈ F := by
  unfold inner at h
  split at h
  · exact List.mem_of_mem_tail h
  · exact h

/-- the frame's slots stand for the environment; U: the slots that alone hold their list or dict; M: the parameters that may be written -/
structure EnvR (K : PySem.W.Frag) (H0 : Hp) (M U : List Nat) (σ : St) (H : Hp) (env : Env) (Fs : Nat → List Addr) : Prop where
  len : σ.length = env.length
  rep : ∀ (i : Nat) (d : PyData), env[i]? = some (some d) → ∃ v, σ[i]? = some (some v) ∧ Rep K H v d (Fs i)
  uni : ∀ i ∈ U, ∃ (d : PyData) (a : Addr) (G : List Addr), env[i]? = some (some d) ∧ isC d = true ∧ σ[i]? = some (some (.ref a)) ∧ Fs i = a :: G ∧ a ∉ G ∧ (∀ j, j ≠ i → a ∉ Fs j) ∧ MutA H a ∧ (H0 a = none ∨ i ∈ M)
  nil : ∀ i, (∀ d, env[i]? ≠ some (some d)) → Fs i = []
  dom : ∀ a, H a = none → H0 a = none
  kp : M = [] → KF H0 H
section
variable {K : PySem.W.Frag} {H0 : Hp} {M U U' : List Nat} {σ : St} {H H' : Hp} {env env' : Env} {Fs Fs' : Nat → List Addr}
theorem EnvR.trk (R : EnvR K H0 M U σ H env Fs) {i : Nat} {a : Addr} (h : a ∈ Fs i) : H a ≠ none := by
  by_cases z : ∃ d, env[i]? = some (some d)
  · obtain ⟨d, e⟩ := z
    obtain ⟨v, _, r⟩ := R.rep i d e
    exact r.trk a h
  · rw [R.nil i fun d e => z ⟨d, e⟩] at h
    cases h
theorem EnvR.weak (R : EnvR K H0 M U σ H env Fs) (h : ∀ i ∈ U', i ∈ U) : EnvR K H0 M U' σ H env Fs := ⟨R.len, R.rep, fun i hi => R.uni i (h i hi), R.nil, R.dom, R.kp⟩
/-- the addresses that may be written -/
def Wr (U Rv : List Nat) (σ : St) (a : Addr) : Prop := ∃ i, i ∈ U ∧ i ∉ Rv ∧ σ[i]? = some (some (.ref a))
theorem EnvR.wr (R : EnvR K H0 M U σ H env Fs) {Rv : List Nat} {a : Addr} (h : Wr U Rv σ a) : MutA H a := by
  obtain ⟨i, hi, _, e⟩ := h
  obtain ⟨d, b, G, _, _, e2, _, _, _, m, _⟩ := R.uni i hi
  rw [e] at e2
  cases e2
  exact m
/-- nothing of F stands at a slot of U -/
def Clean (U : List Nat) (σ : St) (F : List Addr) : Prop := ∀ i ∈ U, ∀ a, σ[i]? = some (some (.ref a)) → a ∉ F
theorem Clean.sub {F G : List Addr} (h : Clean U σ F) (s : ∀ a ∈ G, a ∈ F) : Clean U σ G := fun i hi a e m => h i hi a e (s a m)
theorem Clean.weak {F : List Addr} (h : Clean U σ F) (s : ∀ i ∈ U', i ∈ U) : Clean U' σ F := fun i hi => h i (s i hi)
theorem Clean.nowr {F : List Addr} {Rv : List Nat} (h : Clean U σ F) : ∀ a ∈ F, ¬ Wr U Rv σ a := fun a m ⟨i, hi, _, e⟩ => h i hi a e m
theorem Clean.nil : Clean U σ [] := fun _ _ _ _ h => nomatch h
theorem Clean.append {F G : List Addr} (h : Clean U σ F) (k : Clean U σ G) : Clean U σ (F ++ G) := fun i hi a e m => (List.mem_append.mp m).elim (h i hi a e) (k i hi a e)
/-- a slot of U -/
theorem EnvR.root (R : EnvR K H0 M U σ H env Fs) {i : Nat} {a : Addr} (hi : i ∈ U) (e : σ[i]? = some (some (.ref a))) : ∃ (d : PyData) (G : List Addr), env[i]? = some (some d) ∧ isC d = true ∧ Fs i = a :: G ∧ a ∉ G ∧ (∀ j, j ≠ i → a ∉ Fs j) ∧ MutA H a ∧ (H0 a = none ∨ i ∈ M) := by
  obtain ⟨d, b, G, h1, h2, e2, h3, h4, h5, h6, h7⟩ := R.uni i hi
  rw [e] at e2
  cases e2
  exact ⟨d, G, h1, h2, h3, h4, h5, h6, h7⟩
/-- what is new stands at no slot -/
theorem EnvR.clean_new (R : EnvR K H0 M U σ H env Fs) {F : List Addr} (h : ∀ a ∈ F, H a = none) : Clean U σ F := fun i hi a e m => by
  obtain ⟨_, _, _, _, _, _, _, q, _⟩ := R.root hi e
  exact q.ne (h a m)
theorem EnvR.clean_slot (R : EnvR K H0 M U σ H env Fs) {i : Nat} (hi : i ∉ U) : Clean U σ (Fs i) := fun j hj a e m => by
  obtain ⟨_, _, _, _, _, _, q, _, _⟩ := R.root hj e
  exact q i (fun z => hi (z ▸ hj)) m
theorem EnvR.clean_tail (R : EnvR K H0 M U σ H env Fs) {i : Nat} (hi : i ∈ U) : Clean U σ (Fs i).tail := fun j hj a e m => by
  obtain ⟨_, G, _, _, q0, q1, q, _, _⟩ := R.root hj e
  by_cases z : i = j
  · subst z
    rw [q0] at m
    exact q1 m
  · exact q i z (List.mem_of_mem_tail m)
end

/-- an address of the footprint that is not within is the value's own -/
theorem Rep.own {K : PySem.W.Frag} {H : Hp} {v : V} {d : PyData} {F : List Addr} {b : Addr} (r : Rep K H v d F) (h : b ∈ F) (n : b ∉ inner d F) : v = .ref b := by
  unfold inner at n
  cases r with
  | lst _ _ =>
    rw [if_pos (by rfl)] at n
    rcases List.mem_cons.mp h with z | z
    · rw [z]
    · exact absurd z n
  | dctK _ _ =>
    rw [if_pos (by rfl)] at n
    rcases List.mem_cons.mp h with z | z
    · rw [z]
    · exact absurd z n
  | dctT _ _ =>
    rw [if_pos (by rfl)] at n
    rcases List.mem_cons.mp h with z | z
    · rw [z]
    · exact absurd z n
  | tup _ _ =>
    rw [if_neg (by intro z; cases z)] at n
    exact absurd h n
  | frz _ => cases h
  | lsc _ => cases h
  | con _ => cases h
  | non => cases h
  | bl _ => cases h
  | int _ => cases h
  | str _ => cases h
/-- where a code runs: the contexts, the entry's heap, the parameters that may be written, the wish about exceptions -/
structure Ct where
  ι : Type
  X : ι → Cx
  K : PySem.W.Frag
  H0 : Hp
  M : List Nat
  W : WX
  hK : ∀ x, (X x).K = K
  tk : ∀ x, Takes (X x) W
/-- an own error with its value -/
def ExcRep (K : PySem.W.Frag) (H : Hp) (c : Str) (x : PyData) (cls : Value) (d : Option Addr) : Prop :=
  ∃ (C dd : Addr) (v : V) (F : List Addr), cls = .ref C ∧ d = some dd ∧ PySem.W.nsIn K mainGlobals c = some (some (.ref C)) ∧ H dd = some (.xd [(("value" : Str), v)]) ∧ Rep K H v x F
def EC (C : Ct) (c : Str) (x : PyData) (env : Env) : Prop := ∀ cls d σ H Fs, ExcRep C.K H c x cls d → EnvR C.K C.H0 C.M [] σ H env Fs → C.W cls d σ H

inductive Kd where
  | cl
  | fr
  | br (i : Nat)
  deriving DecidableEq
def KdOk (H0 : Hp) (U : List Nat) (σ : St) (H : Hp) (Fs : Nat → List Addr) (v : V) (d : PyData) (F : List Addr) : Kd → Prop
  | .cl => Clean U σ F
  | .fr => ∃ (a : Addr) (G : List Addr), v = .ref a ∧ F = a :: G ∧ a ∉ G ∧ isC d = true ∧ (∀ j, a ∉ Fs j) ∧ MutA H a ∧ H0 a = none ∧ Clean U σ G
  | .br i => i ∈ U ∧ σ[i]? = some (some v) ∧ isC d = true ∧ Clean U σ F.tail ∧ F ≠ []
section
variable {K : PySem.W.Frag} {H0 : Hp} {M U U' : List Nat} {σ : St} {H H' : Hp} {env env' : Env} {Fs Fs' : Nat → List Addr} {v : V} {d : PyData} {F : List Addr} {kd : Kd}
theorem KdOk.inn (R : EnvR K H0 M U σ H env Fs) (h : KdOk H0 U σ H Fs v d F kd) : Clean U σ (inner d F) := by
  cases kd with
  | cl => exact Clean.sub h fun a m => inner_sub m
  | fr =>
    obtain ⟨a, G, _, rfl, _, c, _, _, _, q⟩ := h
    unfold inner
    rw [if_pos c]
    exact q
  | br i =>
    obtain ⟨_, _, c, q, _⟩ := h
    unfold inner
    rw [if_pos c]
    exact q
theorem KdOk.clean (R : EnvR K H0 M U σ H env Fs) (h : KdOk H0 U σ H Fs v d F kd) (n : ∀ i, kd ≠ .br i) : Clean U σ F := by
  cases kd with
  | cl => exact h
  | fr =>
    obtain ⟨a, G, _, rfl, _, _, q, _, _, q2⟩ := h
    refine fun i hi b e m => ?_
    obtain ⟨_, G', _, _, r, _⟩ := R.root hi e
    rcases List.mem_cons.mp m with z | m
    · subst z
      exact q i (by rw [r]; exact List.mem_cons_self)
    · exact q2 i hi b e m
  | br i => exact absurd rfl (n i)
end

structure EPost (C : Ct) (U Rv : List Nat) (σ : St) (H : Hp) (Fs : Nat → List Addr) (U' : List Nat) (kd : Kd) (d : PyData) (env' : Env) (v : V) (H' : Hp) (Fs' : Nat → List Addr) (F : List Addr) : Prop where
  env : EnvR C.K C.H0 C.M U' σ H' env' Fs'
  keep : Keep (Wr U Rv σ) H H'
  dom : ∀ a, H' a = none → H a = none
  grow : ∀ j a, a ∈ Fs' j → (∃ k, a ∈ Fs k) ∨ H a = none
  rep : Rep C.K H' v d F
  fgrow : ∀ a ∈ F, (∃ k, a ∈ Fs k) ∨ H a = none
  knd : KdOk C.H0 U' σ H' Fs' v d F kd
  frw : kd = .fr → ∀ a, v = .ref a → H a = none ∨ Wr U Rv σ a

/-- e evaluates as f says -/
def DE (C : Ct) (U Rv : List Nat) (e : Expr) (f : Env → Rs PyData) (U' : List Nat) (kd : Kd) : Prop :=
  (∀ i ∈ U', i ∈ U) ∧ ∃ t : TE, (∀ x, PE (C.X x) e t) ∧ ∀ (σ : St) (H : Hp) (env : Env) (Fs : Nat → List Addr) (Q : VK), EnvR C.K C.H0 C.M U σ H env Fs →
    (f env).wp (fun d env' => ∀ v H' Fs' F, EPost C U Rv σ H Fs U' kd d env' v H' Fs' F → Q v H') (EC C) → t σ H Q
structure TPost (C : Ct) (U Rv : List Nat) (σ : St) (H : Hp) (Fs : Nat → List Addr) (U' : List Nat) (env' : Env) (H' : Hp) (Fs' : Nat → List Addr) : Prop where
  env : EnvR C.K C.H0 C.M U' σ H' env' Fs'
  keep : Keep (Wr U Rv σ) H H'
  dom : ∀ a, H' a = none → H a = none
  grow : ∀ j a, a ∈ Fs' j → (∃ k, a ∈ Fs k) ∨ H a = none
/-- a test -/
def DT (C : Ct) (U Rv : List Nat) (e : Expr) (f : Env → Rs Bool) (U' : List Nat) : Prop :=
  (∀ i ∈ U', i ∈ U) ∧ ∃ t : TT, (∀ x, PT (C.X x) e t) ∧ ∀ (σ : St) (H : Hp) (env : Env) (Fs : Nat → List Addr) (Q : Bool → Hp → Prop), EnvR C.K C.H0 C.M U σ H env Fs →
    (f env).wp (fun b env' => ∀ H' Fs', TPost C U Rv σ H Fs U' env' H' Fs' → Q b H') (EC C) → t σ H Q
/-- a test, of any whole -/
def DW (C : Ct) (U Rv : List Nat) (e : Expr) (f : Env → Rs Bool) (U' : List Nat) : Prop :=
  (∀ i ∈ U', i ∈ U) ∧ ∃ t : TT, (∀ x, PW (C.X x) e t) ∧ ∀ (σ : St) (H : Hp) (env : Env) (Fs : Nat → List Addr) (Q : Bool → Hp → Prop), EnvR C.K C.H0 C.M U σ H env Fs →
    (f env).wp (fun b env' => ∀ H' Fs', TPost C U Rv σ H Fs U' env' H' Fs' → Q b H') (EC C) → t σ H Q
/-- arguments: each with its footprint -/
structure AIt (C : Ct) (U : List Nat) (σ : St) (H : Hp) (Fs0 : Nat → List Addr) (H1 : Hp) (v : V) (d : PyData) (F : List Addr) (kd : Kd) : Prop where
  rep : Rep C.K H v d F
  fgrow : ∀ a ∈ F, (∃ k, a ∈ Fs0 k) ∨ H1 a = none
  inn : Clean U σ (inner d F)
  cln : kd = .cl → Clean U σ F
  brw : ∀ i, kd = .br i → i ∈ U ∧ σ[i]? = some (some v) ∧ F ≠ []
inductive AIts (C : Ct) (U : List Nat) (σ : St) (H : Hp) (Fs0 : Nat → List Addr) (H1 : Hp) : List V → List PyData → List (List Addr) → List Kd → Prop
  | nil : AIts C U σ H Fs0 H1 [] [] [] []
  | cons {v : V} {d : PyData} {F : List Addr} {kd : Kd} {vs : List V} {ds : List PyData} {FF : List (List Addr)} {kds : List Kd} : AIt C U σ H Fs0 H1 v d F kd → AIts C U σ H Fs0 H1 vs ds FF kds → AIts C U σ H Fs0 H1 (v :: vs) (d :: ds) (F :: FF) (kd :: kds)
def DA (C : Ct) (U Rv : List Nat) (es : List Expr) (f : Env → Rs (List PyData)) (U' : List Nat) (kds : List Kd) : Prop :=
  (∀ i ∈ U', i ∈ U) ∧ ∃ t : TA, (∀ x, PA (C.X x) es t) ∧ ∀ (σ : St) (H : Hp) (env : Env) (Fs : Nat → List Addr) (Q : List V → Hp → Prop), EnvR C.K C.H0 C.M U σ H env Fs →
    (f env).wp (fun ds env' => ∀ vs H' Fs' FF, TPost C U Rv σ H Fs U' env' H' Fs' → AIts C U' σ H' Fs H vs ds FF kds → Q vs H') (EC C) → t σ H Q
section
variable {C : Ct} {U Rv U1 Rv2 U2 : List Nat} {σ : St} {H H1 H2 : Hp} {Fs Fs1 Fs2 : Nat → List Addr} {env1 env2 : Env} {kd : Kd} {d : PyData} {v : V} {F : List Addr}
theorem EPost.t (p : EPost C U Rv σ H Fs U1 kd d env1 v H1 Fs1 F) : TPost C U Rv σ H Fs U1 env1 H1 Fs1 := ⟨p.env, p.keep, p.dom, p.grow⟩
theorem TPost.trans (p : TPost C U Rv σ H Fs U1 env1 H1 Fs1) (q : TPost C U1 Rv2 σ H1 Fs1 U2 env2 H2 Fs2) (hU : ∀ i ∈ U1, i ∈ U) (hR : ∀ i ∈ Rv, i ∈ Rv2) : TPost C U Rv σ H Fs U2 env2 H2 Fs2 :=
  ⟨q.env, p.keep.trans q.keep fun a _ ⟨i, h1, h2, h3⟩ => ⟨i, hU i h1, fun z => h2 (hR i z), h3⟩, fun a e => p.dom a (q.dom a e), fun j a h => by
    rcases q.grow j a h with ⟨k, hk⟩ | h
    · exact p.grow k a hk
    · exact .inr (p.dom a h)⟩
theorem TPost.refl {env : Env} (R : EnvR C.K C.H0 C.M U σ H env Fs) : TPost C U Rv σ H Fs U env H Fs := ⟨R, Keep.refl, fun _ e => e, fun j a h => .inl ⟨j, h⟩⟩
theorem TPost.weak (p : TPost C U Rv σ H Fs U1 env1 H1 Fs1) (h : ∀ i ∈ U2, i ∈ U1) : TPost C U Rv σ H Fs U2 env1 H1 Fs1 := ⟨p.env.weak h, p.keep, p.dom, p.grow⟩
/-- a held item behind further code -/
theorem AIt.later {Fs0 : Nat → List Addr} {Hx : Hp} (a : AIt C U1 σ H1 Fs0 Hx v d F kd) (R : EnvR C.K C.H0 C.M U1 σ H1 env1 Fs1) (q : TPost C U1 Rv2 σ H1 Fs1 U2 env2 H2 Fs2) (hU : ∀ i ∈ U2, i ∈ U1) (hb : ∀ i, kd = .br i → i ∈ Rv2 ∧ i ∈ U2) (hf : kd = .fr → Clean U1 σ F) : AIt C U2 σ H2 Fs0 Hx v d F kd := by
  refine ⟨a.rep.keep q.keep (fun b h => R.wr h) fun b hb' => ?_, a.fgrow, a.inn.weak hU, fun e => (a.cln e).weak hU, fun i e => ⟨(hb i e).2, (a.brw i e).2⟩⟩
  cases kd with
  | cl => exact (a.cln rfl).nowr b hb'
  | fr => exact (hf rfl).nowr b hb'
  | br i =>
    obtain ⟨hi, e, _⟩ := a.brw i rfl
    rintro ⟨j, h1, h2, h3⟩
    have hij : i ≠ j := fun z => h2 (z ▸ (hb i rfl).1)
    have hin := a.inn j h1 b h3
    have hv : v = .ref b := a.rep.own hb' hin
    rw [hv] at e
    obtain ⟨_, G, _, _, e2, _, n, _, _⟩ := R.root h1 h3
    obtain ⟨_, G', _, _, e2', _, n', _, _⟩ := R.root hi e
    exact n i hij (by rw [e2']; exact List.mem_cons_self)
end
end DV

set_option Elab.async false
set_option linter.all false
set_option maxRecDepth 100000
set_option maxHeartbeats 2000000
namespace DV
open PySem L2

/-! ### results of operations that write nothing -/
structure ResR (K : PySem.W.Frag) (H H' : Hp) (v : V) (d : PyData) (F : List Addr) (P : Addr → Prop) (fr : Bool) : Prop where
  same : Same H H'
  rep : Rep K H' v d F
  frm : ∀ a ∈ F, P a ∨ H a = none
  new : fr = true → ∃ (a : Addr) (G : List Addr), v = .ref a ∧ F = a :: G ∧ a ∉ G ∧ isC d = true ∧ H a = none ∧ MutA H' a
theorem Same.dom {H H' : Hp} (s : Same H H') {a : Addr} (h : H' a = none) : H a = none := s.free h
theorem MutA.same {H H' : Hp} {a : Addr} (s : Same H H') (m : MutA H a) : MutA H' a := by
  rcases m with ⟨x, e⟩ | ⟨x, e⟩ | ⟨x, e⟩
  · exact .inl ⟨x, s _ _ e⟩
  · exact .inr (.inl ⟨x, s _ _ e⟩)
  · exact .inr (.inr ⟨x, s _ _ e⟩)
theorem Rep.same {K : PySem.W.Frag} {H H' : Hp} (s : Same H H') {v : V} {d : PyData} {F : List Addr} (r : Rep K H v d F) : Rep K H' v d F :=
  r.keep (w := fun _ => False) (Keep.same s) (fun _ z => z.elim) fun _ _ z => z
theorem RepL.same {K : PySem.W.Frag} {H H' : Hp} (s : Same H H') {v : List V} {d : List PyData} {F : List Addr} (r : RepL K H v d F) : RepL K H' v d F :=
  r.keep (w := fun _ => False) (Keep.same s) (fun _ z => z.elim) fun _ _ z => z
theorem EnvR.same {K : PySem.W.Frag} {H0 : Hp} {M U : List Nat} {σ : St} {H H' : Hp} {env : Env} {Fs : Nat → List Addr} (s : Same H H') (R : EnvR K H0 M U σ H env Fs) : EnvR K H0 M U σ H' env Fs :=
  ⟨R.len, fun i d e => by
    obtain ⟨v, h1, h2⟩ := R.rep i d e
    exact ⟨v, h1, h2.same s⟩, fun i hi => by
    obtain ⟨d, a, G, h1, h2, h3, h4, h5, h6, h7, h8⟩ := R.uni i hi
    exact ⟨d, a, G, h1, h2, h3, h4, h5, h6, h7.same s, h8⟩, R.nil, fun a e => R.dom a (s.free e), fun e => (R.kp e).keep (Keep.same (w := fun _ => False) s) fun _ z => z.elim⟩
def kdf (fr : Bool) : Kd := if fr = true then .fr else .cl
section
variable {C : Ct} {U Rv U1 : List Nat} {σ : St} {H H1 H2 : Hp} {Fs Fs1 : Nat → List Addr} {env1 : Env} {d : PyData} {v : V} {F : List Addr} {P : Addr → Prop} {fr : Bool}
theorem post_of_res (p : TPost C U Rv σ H Fs U1 env1 H1 Fs1) (r : ResR C.K H1 H2 v d F P fr) (hc : ∀ i ∈ U1, ∀ a, σ[i]? = some (some (.ref a)) → ¬ P a) (hg : ∀ a, P a → (∃ k, a ∈ Fs k) ∨ H a = none) : EPost C U Rv σ H Fs U1 (kdf fr) d env1 v H2 Fs1 F := by
  have R2 := p.env.same r.same
  have cl : Clean U1 σ F := fun i hi a e m => by
    rcases r.frm a m with q | q
    · exact hc i hi a e q
    · obtain ⟨_, _, _, _, _, _, _, m', _⟩ := p.env.root hi e
      exact m'.ne q
  refine ⟨R2, p.keep.trans (Keep.same (w := fun _ => False) r.same) (fun _ _ z => z.elim), fun a e => p.dom a (r.same.free e), p.grow, r.rep, fun a m => ?_, ?_, ?_⟩
  · rcases r.frm a m with q | q
    · exact hg a q
    · exact .inr (p.dom a q)
  · cases fr with
    | false => exact cl
    | true =>
      obtain ⟨a, G, e1, e2, n, c, q, m⟩ := r.new rfl
      subst e2
      exact ⟨a, G, e1, rfl, n, c, fun j z => p.env.trk z q, m, p.env.dom a q, cl.sub fun b z => List.mem_cons_of_mem _ z⟩
  · intro e b hb
    cases fr with
    | false => cases e
    | true =>
      obtain ⟨a, G, e1, _, _, _, q, _⟩ := r.new rfl
      rw [hb] at e1
      cases e1
      exact .inl (p.dom b q)
end

/-! ### names, constants -/
def varE (i : Nat) : Env → Rs PyData := fun env => match env[i]? with
  | some (some d) => .ok d env
  | _ => .bad
def cstE (d : PyData) : Env → Rs PyData := fun env => .ok d env
section
variable {C : Ct} {U Rv U' : List Nat} {e : Expr} {f : Env → Rs PyData} {kd : Kd}
theorem varE_wp {i : Nat} {env : Env} {Q : PyData → Env → Prop} {W : Str → PyData → Env → Prop} (h : (varE i env).wp Q W) : ∃ d, env[i]? = some (some d) ∧ Q d env := by
  unfold varE at h
  split at h
  · rename_i d e
    exact ⟨d, e, h⟩
  · exact h.elim
theorem epost_here {σ : St} {H : Hp} {env : Env} {Fs : Nat → List Addr} {d : PyData} {v : V} {F : List Addr} (R : EnvR C.K C.H0 C.M U σ H env Fs) (r : Rep C.K H v d F) (g : ∀ a ∈ F, (∃ k, a ∈ Fs k) ∨ H a = none) (k : KdOk C.H0 U σ H Fs v d F kd) (n : kd ≠ .fr) : EPost C U Rv σ H Fs U kd d env v H Fs F :=
  ⟨R, Keep.refl, fun _ e => e, fun j a h => .inl ⟨j, h⟩, r, g, k, fun e => absurd e n⟩
theorem de_var {i : Nat} {x : Str} {pos : Pos} (hN : ∀ z, (C.X z).N[i]? = some x) (hv : ∀ z, Vis (C.X z).env.scope x) (hi : i ∉ U) (hd : (x == ("__debug__" : Str)) = false := by decide) (hcd : (x == ("__classdict__" : Str)) = false := by decide) : DE C U Rv (.Name x pos) (varE i) U .cl := by
  refine ⟨fun _ h => h, tVar i, fun z => pe_var (hN z) (hv z) hd hcd, fun σ H env Fs Q R h => ?_⟩
  obtain ⟨d, e, q⟩ := varE_wp h
  obtain ⟨v, ev, r⟩ := R.rep i d e
  exact ⟨v, ev, q v H Fs (Fs i) (epost_here R r (fun a m => .inl ⟨i, m⟩) (R.clean_slot hi) fun z => nomatch z)⟩
theorem de_own {i : Nat} {x : Str} {pos : Pos} (hN : ∀ z, (C.X z).N[i]? = some x) (hv : ∀ z, Vis (C.X z).env.scope x) (hi : i ∈ U) (hd : (x == ("__debug__" : Str)) = false := by decide) (hcd : (x == ("__classdict__" : Str)) = false := by decide) : DE C U Rv (.Name x pos) (varE i) U (.br i) := by
  refine ⟨fun _ h => h, tVar i, fun z => pe_var (hN z) (hv z) hd hcd, fun σ H env Fs Q R h => ?_⟩
  obtain ⟨d, e, q⟩ := varE_wp h
  obtain ⟨v, ev, r⟩ := R.rep i d e
  obtain ⟨d', a, G, h1, h2, _⟩ := R.uni i hi
  rw [e] at h1
  cases h1
  exact ⟨v, ev, q v H Fs (Fs i) (epost_here R r (fun a m => .inl ⟨i, m⟩) ⟨hi, ev, h2, R.clean_tail hi, by obtain ⟨_, _, _, _, _, _, q, _⟩ := R.uni i hi; rw [q]; exact fun z => nomatch z⟩ fun z => nomatch z)⟩
theorem de_cst {t : TE} {v : V} {d : PyData} (hp : ∀ z, PE (C.X z) e (tC v)) (hr : ∀ H, Rep C.K H v d []) : DE C U Rv e (cstE d) U .cl :=
  ⟨fun _ h => h, tC v, hp, fun σ H env Fs Q R h => h v H Fs [] (epost_here R (hr H) (fun _ m => nomatch m) Clean.nil fun z => nomatch z)⟩
theorem de_int {i : Int} {j pos} : DE C U Rv (.Constant (.int i) j pos) (cstE (.int i)) U .cl := de_cst (t := tC (.int i)) (v := .int i) (fun _ => pe_int) fun _ => .int i
theorem de_bl {b : Bool} {j pos} : DE C U Rv (.Constant (.bool b) j pos) (cstE (.bool b)) U .cl := de_cst (t := tC (.bl b)) (v := .bl b) (fun _ => pe_bl) fun _ => .bl b
theorem de_non {j pos} : DE C U Rv (.Constant .none j pos) (cstE .none) U .cl := de_cst (t := tC .non) (v := .non) (fun _ => pe_non) fun _ => .non
theorem de_str {x : Str} {j pos} : DE C U Rv (.Constant (.str x) j pos) (cstE (.str x)) U .cl := de_cst (t := tC (.str x)) (v := .str x) (fun _ => pe_str) fun _ => .str x
theorem EPost.weak {U1 U2 : List Nat} {σ : St} {H H' : Hp} {Fs Fs' : Nat → List Addr} {d : PyData} {env' : Env} {v : V} {F : List Addr} {kd' : Kd} (p : EPost C U Rv σ H Fs U1 kd d env' v H' Fs' F) (hU : ∀ i ∈ U2, i ∈ U1) (k : KdOk C.H0 U2 σ H' Fs' v d F kd') (n : kd' = .fr → kd = .fr) : EPost C U Rv σ H Fs U2 kd' d env' v H' Fs' F :=
  ⟨p.env.weak hU, p.keep, p.dom, p.grow, p.rep, p.fgrow, k, fun e => p.frw (n e)⟩
/-- a slot is given away: what it holds is shared from here on -/
theorem de_give {i : Nat} {U2 : List Nat} (h : DE C U Rv e f U' (.br i)) (hU : ∀ j ∈ U2, j ∈ U' ∧ j ≠ i) : DE C U Rv e f U2 .cl := by
  obtain ⟨h1, t, hp, hs⟩ := h
  refine ⟨fun j hj => h1 j (hU j hj).1, t, hp, fun σ H env Fs Q R hw => hs σ H env Fs Q R (wp_mono hw fun d env' k v H' Fs' F p => k v H' Fs' F (p.weak (fun j hj => (hU j hj).1) ?_ fun z => nomatch z))⟩
  obtain ⟨k1, k2, k3, k4, _⟩ := p.knd
  intro j hj a ej m
  obtain ⟨hj1, hj2⟩ := hU j hj
  by_cases z : a ∈ inner d F
  · exact p.knd.inn p.env j hj1 a ej z
  · have ev := p.rep.own m z
    rw [ev] at k2
    obtain ⟨_, G, _, _, e2, _, n, _, _⟩ := p.env.root hj1 ej
    obtain ⟨_, G', _, _, e2', _, n', _, _⟩ := p.env.root k1 k2
    exact n i (Ne.symm hj2) (by rw [e2']; exact List.mem_cons_self)
theorem de_weak {U2 : List Nat} (h : DE C U Rv e f U' .cl) (hU : ∀ j ∈ U2, j ∈ U') : DE C U Rv e f U2 .cl := by
  obtain ⟨h1, t, hp, hs⟩ := h
  exact ⟨fun j hj => h1 j (hU j hj), t, hp, fun σ H env Fs Q R hw => hs σ H env Fs Q R (wp_mono hw fun d env' k v H' Fs' F p => k v H' Fs' F (p.weak hU (Clean.weak p.knd hU) fun z => nomatch z))⟩
/-- a new object is a clean one -/
theorem de_fc (h : DE C U Rv e f U' .fr) : DE C U Rv e f U' .cl := by
  obtain ⟨h1, t, hp, hs⟩ := h
  exact ⟨h1, t, hp, fun σ H env Fs Q R hw => hs σ H env Fs Q R (wp_mono hw fun d env' k v H' Fs' F p => k v H' Fs' F (p.weak (fun _ h => h) (p.knd.clean p.env fun i z => nomatch z) fun z => nomatch z))⟩
/-- another reading of the same -/
theorem de_as {g : Env → Rs PyData} (h : DE C U Rv e f U' kd) (hg : ∀ env, f env = g env) : DE C U Rv e g U' kd := by
  have : f = g := funext hg
  rw [← this]
  exact h
end

/-! ### arguments -/
def nilA : Env → Rs (List PyData) := fun env => .ok [] env
def consA (f : Env → Rs PyData) (g : Env → Rs (List PyData)) : Env → Rs (List PyData) := fun env => (f env).bind fun d e1 => (g e1).bind fun ds e2 => .ok (d :: ds) e2
section
variable {C : Ct} {U Rv Rv2 U1 U2 : List Nat} {e : Expr} {es : List Expr} {f : Env → Rs PyData} {g : Env → Rs (List PyData)} {kd : Kd} {kds : List Kd}
theorem da_nil : DA C U Rv [] nilA U [] := ⟨fun _ h => h, tNil, fun _ => pa_nil, fun σ H env Fs Q R h => h [] H Fs [] (TPost.refl R) .nil⟩
theorem EPost.ait {σ : St} {H H' : Hp} {Fs Fs' : Nat → List Addr} {d : PyData} {env' : Env} {v : V} {F : List Addr} (p : EPost C U Rv σ H Fs U1 kd d env' v H' Fs' F) : AIt C U1 σ H' Fs H v d F kd := by
  refine ⟨p.rep, p.fgrow, p.knd.inn p.env, fun e => ?_, fun i e => ?_⟩
  · subst e
    exact p.knd
  · subst e
    exact ⟨p.knd.1, p.knd.2.1, p.knd.2.2.2.2⟩
theorem AIts.back {σ : St} {H : Hp} {Fs Fs1 : Nat → List Addr} {Hx Hy : Hp} (hg : ∀ a, (∃ k, a ∈ Fs1 k) ∨ Hy a = none → (∃ k, a ∈ Fs k) ∨ Hx a = none) : ∀ {vs : List V} {ds : List PyData} {FF : List (List Addr)} {kds : List Kd}, AIts C U σ H Fs1 Hy vs ds FF kds → AIts C U σ H Fs Hx vs ds FF kds
  | _, _, _, _, .nil => .nil
  | _, _, _, _, .cons a r => .cons ⟨a.rep, fun b m => hg b (a.fgrow b m), a.inn, a.cln, a.brw⟩ (AIts.back hg r)
theorem da_cons (ha : DE C U Rv e f U1 kd) (hb : DA C U1 Rv2 es g U2 kds) (hR : ∀ i ∈ Rv, i ∈ Rv2) (hk : ∀ i, kd = .br i → i ∈ Rv2 ∧ i ∈ U2) (hst : ∀ x, starEach (e :: es) (C.X x).env = (false, eval e (C.X x).env) :: starEach es (C.X x).env := by intro _; rfl) : DA C U Rv (e :: es) (consA f g) U2 (kd :: kds) := by
  obtain ⟨h1, t, hp, hs⟩ := ha
  obtain ⟨h1', t', hp', hs'⟩ := hb
  refine ⟨fun i hi => h1 i (h1' i hi), tCons t t', fun x => pa_cons (hp x) (hp' x) (hst x), fun σ H env Fs Q R hw => ?_⟩
  refine hs σ H env Fs _ R ?_
  unfold consA at hw
  rw [wp_bind] at hw
  refine wp_mono hw fun d e1 hw v H1 Fs1 F p => ?_
  refine hs' σ H1 e1 Fs1 _ p.env ?_
  rw [wp_bind] at hw
  refine wp_mono hw fun ds e2 hw vs H2 Fs2 FF q as => ?_
  refine hw (v :: vs) H2 Fs2 (F :: FF) (p.t.trans q h1 hR) (.cons ?_ ?_)
  · exact p.ait.later p.env q h1' hk fun e => p.knd.clean p.env fun i z => by rw [e] at z; cases z
  · refine as.back fun a h => ?_
    rcases h with ⟨k, hk⟩ | h
    · exact p.grow k a hk
    · exact .inr (p.dom a h)
end
end DV

set_option Elab.async false
set_option linter.all false
set_option maxRecDepth 100000
set_option maxHeartbeats 2000000
namespace DV
open PySem L2

/-! ### operations on values, writing nothing -/
section
variable {K : PySem.W.Frag} {H : Hp} {v : V} {vs : List V} {d : PyData} {ds : List PyData} {F : List Addr} {P : Addr → Prop} {fr : Bool} {p : Addr}
theorem same_new {o : HO} (h : H p = none) : Same H (upd H p o) := fun b x e => by
  rw [upd_ne (ne_of_none e h)]
  exact e
theorem res_here (r : Rep K H v d F) (s : ∀ a ∈ F, P a) : ResR K H H v d F P false := ⟨Same.refl H, r, fun a m => .inl (s a m), fun z => nomatch z⟩
theorem res_sc (r : Rep K H v d []) : ResR K H H v d [] P false := res_here r fun _ m => nomatch m
theorem res_tup (np : H p = none) (r : RepL K H vs ds F) (s : ∀ a ∈ F, P a ∨ H a = none) : ResR K H (upd H p (.tup vs)) (.ref p) (.tuple ds) F P false :=
  ⟨same_new np, .tup upd_same (r.same (same_new np)), s, fun z => nomatch z⟩
theorem res_lst (np : H p = none) (r : RepL K H vs ds F) (s : ∀ a ∈ F, P a ∨ H a = none) : ResR K H (upd H p (.lst vs)) (.ref p) (.list ds) (p :: F) P fr :=
  ⟨same_new np, .lst upd_same (r.same (same_new np)), fun a m => by
    rcases List.mem_cons.mp m with z | z
    · exact .inr (by rw [z]; exact np)
    · exact s a z, fun _ => ⟨p, F, rfl, rfl, fun m => r.trk p m np, rfl, np, .inl ⟨_, upd_same⟩⟩⟩
end
/-- from a value -/
def OK1 (K : PySem.W.Frag) (r : V → Hp → VK → Prop) (g : PyData → Option PyData) (fr : Bool) : Prop := ∀ (H : Hp) (v : V) (d : PyData) (F : List Addr) (d' : PyData) (Q : VK), Rep K H v d F → g d = some d' →
  (∀ v' H' F', ResR K H H' v' d' F' (fun a => a ∈ inner d F) fr → Q v' H') → r v H Q
def OK2 (K : PySem.W.Frag) (r : R2) (g : PyData → PyData → Option PyData) (fr : Bool) : Prop := ∀ (H : Hp) (v w : V) (d e : PyData) (F G : List Addr) (d' : PyData) (Q : VK), Rep K H v d F → Rep K H w e G → g d e = some d' →
  (∀ v' H' F', ResR K H H' v' d' F' (fun a => a ∈ inner d F ∨ a ∈ inner e G) fr → Q v' H') → r v w H Q
inductive RepE (K : PySem.W.Frag) (H : Hp) : List V → List PyData → List (List Addr) → Prop
  | nil : RepE K H [] [] []
  | cons {v : V} {d : PyData} {F : List Addr} {vs : List V} {ds : List PyData} {FF : List (List Addr)} : Rep K H v d F → RepE K H vs ds FF → RepE K H (v :: vs) (d :: ds) (F :: FF)
def innAll : List PyData → List (List Addr) → List Addr
  | d :: ds, F :: FF => inner d F ++ innAll ds FF
  | _, _ => []
def OKN (K : PySem.W.Frag) (r : List V → Hp → VK → Prop) (g : List PyData → Option PyData) (fr : Bool) : Prop := ∀ (H : Hp) (vs : List V) (ds : List PyData) (FF : List (List Addr)) (d' : PyData) (Q : VK), RepE K H vs ds FF → g ds = some d' →
  (∀ v' H' F', ResR K H H' v' d' F' (fun a => a ∈ innAll ds FF) fr → Q v' H') → r vs H Q
theorem AIts.repE {C : Ct} {U : List Nat} {σ : St} {H : Hp} {Fs0 : Nat → List Addr} {Hx : Hp} : ∀ {vs : List V} {ds : List PyData} {FF : List (List Addr)} {kds : List Kd}, AIts C U σ H Fs0 Hx vs ds FF kds → RepE C.K H vs ds FF ∧ Clean U σ (innAll ds FF) ∧ ∀ a ∈ innAll ds FF, (∃ k, a ∈ Fs0 k) ∨ Hx a = none
  | _, _, _, _, .nil => ⟨.nil, Clean.nil, fun _ m => nomatch m⟩
  | _, _, _, _, .cons a r => by
    obtain ⟨h1, h2, h3⟩ := AIts.repE r
    exact ⟨.cons a.rep h1, a.inn.append h2, fun b m => (List.mem_append.mp m).elim (fun z => a.fgrow b (inner_sub z)) (h3 b)⟩
theorem OKN.of1 {K : PySem.W.Frag} {r : List V → Hp → VK → Prop} {r1 : V → Hp → VK → Prop} {g : PyData → Option PyData} {fr : Bool} (h : OK1 K r1 g fr) (hr : ∀ v H Q, r1 v H Q → r [v] H Q) : OKN K r (fun ds => match ds with | [d] => g d | _ => none) fr := by
  intro H vs ds FF d' Q hE hg k
  cases hE with
  | nil => simp at hg
  | cons h1 h2 =>
    cases h2 with
    | nil => exact hr _ _ _ (h H _ _ _ d' Q h1 hg fun v' H' F' z => k v' H' F' ⟨z.same, z.rep, fun a m => (z.frm a m).imp (fun q => by simpa [innAll] using q) id, z.new⟩)
    | cons _ _ => simp at hg
theorem OKN.of2 {K : PySem.W.Frag} {r : List V → Hp → VK → Prop} {r1 : R2} {g : PyData → PyData → Option PyData} {fr : Bool} (h : OK2 K r1 g fr) (hr : ∀ v w H Q, r1 v w H Q → r [v, w] H Q) : OKN K r (fun ds => match ds with | [d, e] => g d e | _ => none) fr := by
  intro H vs ds FF d' Q hE hg k
  cases hE with
  | nil => simp at hg
  | cons h1 h2 =>
    cases h2 with
    | nil => simp at hg
    | cons h2 h3 =>
      cases h3 with
      | nil => exact hr _ _ _ _ (h H _ _ _ _ _ _ d' Q h1 h2 hg fun v' H' F' z => k v' H' F' ⟨z.same, z.rep, fun a m => (z.frm a m).imp (fun q => by simpa [innAll] using q) id, z.new⟩)
      | cons _ _ => simp at hg

/-! ### the code around them -/
def un1 (g : PyData → Option PyData) (f : Env → Rs PyData) : Env → Rs PyData := fun env => (f env).bind fun d e => Rs.of (g d) e
def bin2 (g : PyData → PyData → Option PyData) (f1 f2 : Env → Rs PyData) : Env → Rs PyData := fun env => (f1 env).bind fun d e => (f2 e).bind fun d2 e2 => Rs.of (g d d2) e2
def nary (g : List PyData → Option PyData) (f : Env → Rs (List PyData)) : Env → Rs PyData := fun env => (f env).bind fun ds e => Rs.of (g ds) e
section
variable {C : Ct} {U Rv Rv2 U1 U2 : List Nat} {a b e : Expr} {es : List Expr} {f f1 f2 : Env → Rs PyData} {fa : Env → Rs (List PyData)} {kd k1 k2 : Kd} {kds : List Kd} {fr : Bool} {pos : Pos}
/-- one operand's reading, then an operation -/
theorem run1 {r : V → Hp → VK → Prop} {g : PyData → Option PyData} (ha : DE C U Rv a f U1 kd) (ok : OK1 C.K r g fr) : ∃ t : TE, (∀ x, PE (C.X x) a t) ∧ ∀ (σ : St) (H : Hp) (env : Env) (Fs : Nat → List Addr) (Q : VK), EnvR C.K C.H0 C.M U σ H env Fs →
    (un1 g f env).wp (fun d env' => ∀ v H' Fs' F, EPost C U Rv σ H Fs U1 (kdf fr) d env' v H' Fs' F → Q v H') (EC C) → t σ H fun v H1 => r v H1 Q := by
  obtain ⟨h1, t, hp, hs⟩ := ha
  refine ⟨t, hp, fun σ H env Fs Q R hw => hs σ H env Fs _ R ?_⟩
  unfold un1 at hw
  rw [wp_bind] at hw
  refine wp_mono hw fun d e1 hw v H1 Fs1 F p => ?_
  obtain ⟨d', hd, k⟩ := wp_of hw
  refine ok H1 v d F d' Q p.rep hd fun v' H' F' z => k v' H' Fs1 F' (post_of_res p.t z (fun i hi a e m => p.knd.inn p.env i hi a e m) fun a m => p.fgrow a (inner_sub m))
theorem run2 {r : R2} {g : PyData → PyData → Option PyData} (ha : DE C U Rv a f1 U1 k1) (hb : DE C U1 Rv2 b f2 U2 k2) (hR : ∀ i ∈ Rv, i ∈ Rv2) (hk : ∀ i, k1 = .br i → i ∈ Rv2 ∧ i ∈ U2) (ok : OK2 C.K r g fr) :
    ∃ ta tb : TE, (∀ x, PE (C.X x) a ta) ∧ (∀ x, PE (C.X x) b tb) ∧ ∀ (σ : St) (H : Hp) (env : Env) (Fs : Nat → List Addr) (Q : VK), EnvR C.K C.H0 C.M U σ H env Fs →
    (bin2 g f1 f2 env).wp (fun d env' => ∀ v H' Fs' F, EPost C U Rv σ H Fs U2 (kdf fr) d env' v H' Fs' F → Q v H') (EC C) → ta σ H fun v H1 => tb σ H1 fun w H2 => r v w H2 Q := by
  obtain ⟨h1, t, hp, hs⟩ := ha
  obtain ⟨h1', t', hp', hs'⟩ := hb
  refine ⟨t, t', hp, hp', fun σ H env Fs Q R hw => hs σ H env Fs _ R ?_⟩
  unfold bin2 at hw
  rw [wp_bind] at hw
  refine wp_mono hw fun d e1 hw v H1 Fs1 F p => hs' σ H1 e1 Fs1 _ p.env ?_
  rw [wp_bind] at hw
  refine wp_mono hw fun d2 e2 hw w H2 Fs2 G q => ?_
  obtain ⟨d', hd, k⟩ := wp_of hw
  have A := p.ait.later p.env q.t h1' hk fun e => p.knd.clean p.env fun i z => by rw [e] at z; cases z
  have T := p.t.trans q.t h1 hR
  refine ok H2 v w d d2 F G d' Q A.rep q.rep hd fun v' H' F' z => k v' H' Fs2 F' (post_of_res T z (fun i hi a e m => ?_) fun a m => ?_)
  · rcases m with m | m
    · exact A.inn i hi a e m
    · exact q.knd.inn q.env i hi a e m
  · rcases m with m | m
    · exact A.fgrow a (inner_sub m)
    · rcases q.fgrow a (inner_sub m) with ⟨k, hk⟩ | h
      · exact p.grow k a hk
      · exact .inr (p.dom a h)
theorem runN {r : List V → Hp → VK → Prop} {g : List PyData → Option PyData} (ha : DA C U Rv es fa U1 kds) (ok : OKN C.K r g fr) : ∃ t : TA, (∀ x, PA (C.X x) es t) ∧ ∀ (σ : St) (H : Hp) (env : Env) (Fs : Nat → List Addr) (Q : VK), EnvR C.K C.H0 C.M U σ H env Fs →
    (nary g fa env).wp (fun d env' => ∀ v H' Fs' F, EPost C U Rv σ H Fs U1 (kdf fr) d env' v H' Fs' F → Q v H') (EC C) → t σ H fun vs H1 => r vs H1 Q := by
  obtain ⟨h1, t, hp, hs⟩ := ha
  refine ⟨t, hp, fun σ H env Fs Q R hw => hs σ H env Fs _ R ?_⟩
  unfold nary at hw
  rw [wp_bind] at hw
  refine wp_mono hw fun ds e1 hw vs H1 Fs1 FF p as => ?_
  obtain ⟨d', hd, k⟩ := wp_of hw
  obtain ⟨q1, q2, q3⟩ := as.repE
  refine ok H1 vs ds FF d' Q q1 hd fun v' H' F' z => k v' H' Fs1 F' (post_of_res p z (fun i hi a e m => q2 i hi a e m) fun a m => q3 a m)
theorem de_op {op : Operator} {r : R2} {g : PyData → PyData → Option PyData} (ho : ∀ x, OpR (C.X x) (binaryOp op) r) (ok : OK2 C.K r g fr) (ha : DE C U Rv a f1 U1 k1) (hb : DE C U1 Rv2 b f2 U2 k2) (hR : ∀ i ∈ Rv, i ∈ Rv2) (hk : ∀ i, k1 = .br i → i ∈ Rv2 ∧ i ∈ U2) : DE C U Rv (.BinOp a op b pos) (bin2 g f1 f2) U2 (kdf fr) := by
  obtain ⟨ta, tb, pa, pb, h⟩ := run2 ha hb hR hk ok
  exact ⟨fun i hi => ha.1 i (hb.1 i hi), tOp r ta tb, fun x => pe_op (ho x) (pa x) (pb x), h⟩
theorem de_cmp {op : CmpOp} {r : R2} {g : PyData → PyData → Option PyData} (ho : ∀ x, OpR (C.X x) (compareOp op) r) (ok : OK2 C.K r g fr) (ha : DE C U Rv a f1 U1 k1) (hb : DE C U1 Rv2 b f2 U2 k2) (hR : ∀ i ∈ Rv, i ∈ Rv2) (hk : ∀ i, k1 = .br i → i ∈ Rv2 ∧ i ∈ U2) (hm : behindInMarks op b = false) : DE C U Rv (.Compare a [op] [b] pos) (bin2 g f1 f2) U2 (kdf fr) := by
  obtain ⟨ta, tb, pa, pb, h⟩ := run2 ha hb hR hk ok
  exact ⟨fun i hi => ha.1 i (hb.1 i hi), tOp r ta tb, fun x => pe_cmpR (ho x) (pa x) (pb x) hm, h⟩
def boolOf : PyData → Option Bool
  | .bool b => some b
  | _ => none
def asB (f : Env → Rs PyData) : Env → Rs Bool := fun env => (f env).bind fun d e => Rs.of (boolOf d) e
/-- a value that is a truth value, tested -/
theorem dt_val (ha : DE C U Rv e f U1 kd) (he : ∀ x whole, isTrue e (C.X x).env whole = (do let v ← whole; standAt e.pos; holding [v] (truthy v)) := by intro _ _; rfl) : DT C U Rv e (asB f) U1 := by
  obtain ⟨h1, t, hp, hs⟩ := ha
  refine ⟨h1, tB t, fun x => pt_val (hp x) (he x), fun σ H env Fs Q R hw => hs σ H env Fs _ R ?_⟩
  unfold asB at hw
  rw [wp_bind] at hw
  refine wp_mono hw fun d e1 hw v H1 Fs1 F p => ?_
  obtain ⟨b, hb, k⟩ := wp_of hw
  have r := p.rep
  cases d <;> simp [boolOf] at hb
  subst hb
  cases r
  exact ⟨_, rfl, k H1 Fs1 p.t⟩
theorem dt_cmp {op : CmpOp} {r : R2} {g : PyData → PyData → Option PyData} (ho : ∀ x, OpR (C.X x) (compareOp op) r) (ok : OK2 C.K r g false) (ha : DE C U Rv a f1 U1 k1) (hb : DE C U1 Rv2 b f2 U2 k2) (hR : ∀ i ∈ Rv, i ∈ Rv2) (hk : ∀ i, k1 = .br i → i ∈ Rv2 ∧ i ∈ U2) (hm : behindInMarks op b = false) : DT C U Rv (.Compare a [op] [b] pos) (asB (bin2 g f1 f2)) U2 := by
  obtain ⟨ta, tb, pa, pb, h⟩ := run2 ha hb hR hk ok
  refine ⟨fun i hi => ha.1 i (hb.1 i hi), tTest (tOp r ta tb), fun x => pt_cmpR (ho x) (pa x) (pb x) hm, fun σ H env Fs Q R hw => h σ H env Fs _ R ?_⟩
  unfold asB at hw
  rw [wp_bind] at hw
  refine wp_mono hw fun d e1 hw v H1 Fs1 F p => ?_
  obtain ⟨c, hc, k⟩ := wp_of hw
  have r := p.rep
  cases d <;> simp [boolOf] at hc
  subst hc
  cases r
  exact ⟨_, rfl, k H1 Fs1 p.t⟩
theorem de_un {op : UnaryOp} {r : V → Hp → VK → Prop} {g : PyData → Option PyData} (ho : ∀ x, UnR (C.X x) (unaryOp op) r) (ok : OK1 C.K r g fr) (ha : DE C U Rv a f U1 kd) : DE C U Rv (.UnaryOp op a pos) (un1 g f) U1 (kdf fr) := by
  obtain ⟨ta, pa, h⟩ := run1 ha ok
  exact ⟨ha.1, tUn r ta, fun x => pe_un (ho x) (pa x), h⟩
theorem de_callB {id : String} {x : Str} {p : Pos} {r : List V → Hp → VK → Prop} {g : List PyData → Option PyData} (hc : ∀ x, CallR (C.X x) (.builtin id) r) (ok : OKN C.K r g fr) (hg : ∀ z, Gl (C.X z) x) (hm : ∀ z, (C.X z).mg x = none) (hv : bootBuiltins x = some (.builtin id)) (ha : DA C U Rv (e :: es) fa U1 kds)
    (hn : x ≠ "__name__" := by decide) (hdb : (x == ("__debug__" : Str)) = false := by decide) (he : ∀ z, starEach (e :: es) (C.X z).env = (false, eval e (C.X z).env) :: starEach es (C.X z).env := by intro _; rfl) (hpl : ∀ z, (backTo pos (starEach es (C.X z).env)).any (·.1) = false := by intro _; rfl) :
    DE C U Rv (.Call (.Name x p) (e :: es) [] pos) (nary g fa) U1 (kdf fr) := by
  obtain ⟨ta, pa, h⟩ := runN ha ok
  exact ⟨ha.1, tCB r ta, fun z => pe_callB (hc z) (hg z) (hm z) hv (pa z) hn hdb (he z) (hpl z), h⟩
theorem de_callTy {T : String} {x : Str} {p : Pos} {r : List V → Hp → VK → Prop} {g : List PyData → Option PyData} (hc : ∀ x, CallR (C.X x) (.type T) r) (ok : OKN C.K r g fr) (hg : ∀ z, Gl (C.X z) x) (hm : ∀ z, (C.X z).mg x = none) (hv : bootBuiltins x = some (.type T)) (ha : DA C U Rv (e :: es) fa U1 kds)
    (hn : x ≠ "__name__" := by decide) (hdb : (x == ("__debug__" : Str)) = false := by decide) (he : ∀ z, starEach (e :: es) (C.X z).env = (false, eval e (C.X z).env) :: starEach es (C.X z).env := by intro _; rfl) (hpl : ∀ z, (backTo pos (starEach es (C.X z).env)).any (·.1) = false := by intro _; rfl) :
    DE C U Rv (.Call (.Name x p) (e :: es) [] pos) (nary g fa) U1 (kdf fr) := by
  obtain ⟨ta, pa, h⟩ := runN ha ok
  exact ⟨ha.1, tCB r ta, fun z => pe_callTy (hc z) (hg z) (hm z) hv (pa z) hn hdb (he z) (hpl z), h⟩
/-- a[b] of a list, a tuple, a text -/
theorem de_ix {r : R2} {g : PyData → PyData → Option PyData} (ho : ∀ x, IxR (C.X x) r) (ok : OK2 C.K r g fr) (ha : DE C U Rv a f1 U1 k1) (hb : DE C U1 Rv2 b f2 U2 k2) (hR : ∀ i ∈ Rv, i ∈ Rv2) (hk : ∀ i, k1 = .br i → i ∈ Rv2 ∧ i ∈ U2) (hs : PlainIx b := by exact fun _ _ => rfl) : DE C U Rv (.Subscript a b pos) (bin2 g f1 f2) U2 (kdf fr) := by
  obtain ⟨ta, tb, pa, pb, h⟩ := run2 ha hb hR hk ok
  exact ⟨fun i hi => ha.1 i (hb.1 i hi), tOp r ta tb, fun x => pe_ix (ho x) (pa x) (pb x) hs, h⟩
end
end DV

set_option Elab.async false
set_option linter.all false
set_option maxRecDepth 100000
set_option maxHeartbeats 2000000
namespace DV
open PySem L2

/-- the size that a new list, tuple or text may have -/
abbrev lim : Nat := 16777216
theorem lim_ok {n : Nat} (h : n ≤ lim) : n ≤ sizeLine := by
  rw [sizeLine_eq]
  exact h
theorem lim_lt {n : Nat} (h : n < lim) : n < sizeLine := by
  rw [sizeLine_eq]
  exact h
section
variable {K : PySem.W.Frag} {H : Hp} {v w : V} {d e : PyData} {ds : List PyData} {F G : List Addr}
theorem Rep.sqL (r : Rep K H v (.list ds) F) : ∃ (a : Addr) (vs : List V) (G : List Addr), v = .ref a ∧ SqL K H a vs ∧ RepL K H vs ds G ∧ ∀ b ∈ G, b ∈ inner (.list ds) F := by
  cases r with
  | lst h l => exact ⟨_, _, _, rfl, .inl (.inl h), l, fun b m => by unfold inner; rw [if_pos (by rfl)]; exact m⟩
  | frz h => exact ⟨_, _, [], rfl, .inl (.inr ⟨_, h⟩), repL_ints _, fun _ m => nomatch m⟩
  | lsc h => exact ⟨_, _, [], rfl, .inr h, repL_ints _, fun _ m => nomatch m⟩
theorem inner_tup {xs : List PyData} : inner (.tuple xs) F = F := by
  unfold inner
  rw [if_neg (by intro z; cases z)]
theorem inner_lst {xs : List PyData} {a : Addr} : inner (.list xs) (a :: F) = F := by
  unfold inner
  rw [if_pos (by rfl)]
  rfl
theorem Rep.sqT (r : Rep K H v (.tuple ds) F) : ∃ (a : Addr) (vs : List V), v = .ref a ∧ SqT K H a vs ∧ RepL K H vs ds F := by
  cases r with
  | tup h l => exact ⟨_, _, rfl, SqT.of h, l⟩
end

/-! ### + -/
def addD : PyData → PyData → Option PyData
  | .int i, .int j => some (.int (i + j))
  | .str x, .str y => if x.length + y.length ≤ lim then some (.str (x ++ y)) else none
  | .tuple xs, .tuple ys => if xs.length + ys.length ≤ lim then some (.tuple (xs ++ ys)) else none
  | .list xs, .list ys => if xs.length + ys.length ≤ lim then some (.list (xs ++ ys)) else none
  | _, _ => none
def rCatR (K : PySem.W.Frag) : R2 := fun x y H Q => ∃ l b xs zs, x = .ref l ∧ y = .ref b ∧ SqL K H l xs ∧ SqL K H b zs ∧ xs.length + zs.length ≤ sizeLine ∧ ∀ p, H p = none → Q (.ref p) (upd H p (.lst (xs ++ zs)))
theorem op_catR {X : Cx} : OpR X (binaryOp .Add) (rCatR X.K) := by
  intro pins s σ H x y v u Q I rx ry h
  obtain ⟨l, b, xs, zs, rfl, rfl, hH, hB, hz, q⟩ := h
  cases rx
  cases ry
  obtain ⟨its, r, pl, _⟩ := I.list hH
  obtain ⟨its2, r2, pl2, _⟩ := I.list hB
  have hl := r.length
  have hl2 := r2.length
  obtain ⟨⟨c1, x1, y1, z1⟩, n, e, p1, p2, p3⟩ := pl
  obtain ⟨⟨c2, x2, y2, z2⟩, n2, e2, p4, p5, p6⟩ := pl2
  simp only at p1 p2 p3 p4 p5 p6
  subst p1 p2 p3 p4 p5 p6
  refine PySem.concat_meets ⟨_, e, rfl⟩ ⟨_, e2, rfl⟩ PySem.noFill_list_add PySem.seq_list_add PySem.F.slot_list_add PySem.F.entry_list_add (PySem.F.args_list_add_2 _ _) (PyProof.Rows.list_addW l b its.toArray its2.toArray n n2 none none z1 z2 (by rw [List.size_toArray, List.size_toArray]; omega)) ⟨e, e2, ?_⟩
  have ea : its.toArray ++ its2.toArray = (its ++ its2).toArray := by simp
  rw [ea]
  exact ⟨.ref _, _, I.lnew (t' := s.toks) (r.append r2) (by rw [List.length_append]; omega), rfl, q _ I.fresh⟩
def rAddStr : R2 := fun x y H Q => ∃ i j, x = .str i ∧ y = .str j ∧ i.length + j.length ≤ sizeLine ∧ Q (.str (i ++ j)) H
def rAdd (K : PySem.W.Frag) : R2 := fun x y H Q => (rI0 fun i j => .int (i + j)) x y H Q ∨ rAddStr x y H Q ∨ rCatA K x y H Q ∨ rCatR K x y H Q
theorem op_addD {X : Cx} : OpR X (binaryOp .Add) (rAdd X.K) := op_add.or (op_add_str.or (op_catA.or op_catR))
theorem ok_add {K : PySem.W.Frag} : OK2 K (rAdd K) addD false := by
  intro H v w d e F G d' Q r1 r2 hd k
  cases d with
  | int i =>
    cases e with
    | int j =>
      simp [addD] at hd
      subst hd
      cases r1
      cases r2
      exact .inl ⟨i, j, rfl, rfl, k _ _ _ (res_sc (.int _))⟩
    | _ => simp [addD] at hd
  | str x =>
    cases e with
    | str y =>
      simp only [addD] at hd
      split at hd
      · rename_i hz
        cases hd
        cases r1
        cases r2
        exact .inr (.inl ⟨x, y, rfl, rfl, lim_ok hz, k _ _ _ (res_sc (.str _))⟩)
      · cases hd
    | _ => simp [addD] at hd
  | tuple xs =>
    cases e with
    | tuple ys =>
      simp only [addD] at hd
      split at hd
      · rename_i hz
        cases hd
        obtain ⟨a, vs, rfl, h1, l1⟩ := r1.sqT
        obtain ⟨b, ws, rfl, h2, l2⟩ := r2.sqT
        refine .inr (.inr (.inl ⟨a, b, vs, ws, rfl, rfl, h1, h2, ?_, fun e => ?_, fun _ e => ?_, fun _ _ p np => ?_⟩))
        · rw [l1.length, l2.length]
          exact lim_ok hz
        · subst e
          cases l1
          exact k _ _ _ (res_here r2 fun a m => .inr (by rw [inner_tup]; exact m))
        · subst e
          cases l2
          rw [List.append_nil] at k
          exact k _ _ _ (res_here r1 fun a m => .inl (by rw [inner_tup]; exact m))
        · refine k _ _ _ (res_tup np (l1.append l2) fun a m => .inl ?_)
          rw [inner_tup, inner_tup]
          exact List.mem_append.mp m
      · cases hd
    | _ => simp [addD] at hd
  | list xs =>
    cases e with
    | list ys =>
      simp only [addD] at hd
      split at hd
      · rename_i hz
        cases hd
        obtain ⟨a, vs, G1, rfl, h1, l1, s1⟩ := r1.sqL
        obtain ⟨b, ws, G2, rfl, h2, l2, s2⟩ := r2.sqL
        refine .inr (.inr (.inr ⟨a, b, vs, ws, rfl, rfl, h1, h2, ?_, fun p np => ?_⟩))
        · rw [l1.length, l2.length]
          exact lim_ok hz
        · exact k _ _ _ (res_lst np (l1.append l2) fun a m => .inl ((List.mem_append.mp m).imp (s1 a) (s2 a)))
      · cases hd
    | _ => simp [addD] at hd
  | _ => simp [addD] at hd

/-! ### ints alone -/
def ii (g : Int → Int → Option PyData) : PyData → PyData → Option PyData
  | .int i, .int j => g i j
  | _, _ => none
theorem ok_ii {K : PySem.W.Frag} {Cc : Int → Int → Prop} {g : Int → Int → Int} {c : Int → Int → Bool} (hc : ∀ i j, c i j = true → Cc i j) : OK2 K (rI Cc fun i j => .int (g i j)) (ii fun i j => if c i j = true then some (.int (g i j)) else none) false := by
  intro H v w d e F G d' Q r1 r2 hd k
  cases d with
  | int i =>
    cases e with
    | int j =>
      simp only [ii] at hd
      split at hd
      · rename_i hz
        cases hd
        cases r1
        cases r2
        exact ⟨i, j, rfl, rfl, hc i j hz, k _ _ _ (res_sc (.int _))⟩
      · cases hd
    | _ => simp [ii] at hd
  | _ => simp [ii] at hd
def subD : PyData → PyData → Option PyData := ii fun i j => some (.int (i - j))
theorem ok_sub {K : PySem.W.Frag} : OK2 K (rI0 fun i j => .int (i - j)) subD false := by
  intro H v w d e F G d' Q r1 r2 hd k
  cases d with
  | int i =>
    cases e with
    | int j =>
      simp only [subD, ii] at hd
      cases hd
      cases r1
      cases r2
      exact ⟨i, j, rfl, rfl, k _ _ _ (res_sc (.int _))⟩
    | _ => simp [subD, ii] at hd
  | _ => simp [subD, ii] at hd
/-- a product: together below a million bits (or one of both small) -/
def mulOk (i j : Int) : Bool := decide (i.natAbs < 2 ^ 64) || decide (j.natAbs < 2 ^ 64) || decide (i.natAbs.log2 + j.natAbs.log2 < 1000000)
theorem mulOk_ok {i j : Int} (h : mulOk i j = true) : IntMulOk i j := by
  simp only [mulOk, Bool.or_eq_true, decide_eq_true_eq] at h
  rcases h with (h | h) | h
  · exact CMul.ok (.inl ⟨by omega, by omega⟩)
  · exact CMul.ok (.inr ⟨by omega, by omega⟩)
  · exact CMulW.ok h
theorem op_mulD {X : Cx} : OpR X (binaryOp .Mult) (rI (fun i j => mulOk i j = true) fun i j => .int (i * j)) := opI fun _ _ _ _ _ _ _ hc q => PyProof.Rows.mul_int q (mulOk_ok hc)
def mulI : PyData → PyData → Option PyData := ii fun i j => if mulOk i j = true then some (.int (i * j)) else none
theorem ok_mulI {K : PySem.W.Frag} : OK2 K (rI (fun i j => mulOk i j = true) fun i j => .int (i * j)) mulI false := ok_ii fun _ _ h => h
def modD : PyData → PyData → Option PyData := ii fun i j => if decide (j ≠ 0) = true then some (.int (i.fmod j)) else none
theorem ok_mod {K : PySem.W.Frag} : OK2 K (rI (fun _ j => j ≠ 0) fun i j => .int (i.fmod j)) modD false := ok_ii fun _ _ h => of_decide_eq_true h
def fdivD : PyData → PyData → Option PyData := ii fun i j => if decide (j ≠ 0 ∧ j.natAbs < 1073741824) = true then some (.int (i.fdiv j)) else none
theorem ok_fdiv {K : PySem.W.Frag} : OK2 K (rI CDivN fun i j => .int (i.fdiv j)) fdivD false := ok_ii fun i j h => of_decide_eq_true (p := j ≠ 0 ∧ j.natAbs < 1073741824) h
def powD : PyData → PyData → Option PyData := ii fun i j => if decide (0 ≤ j ∧ j ≤ 1000000 ∧ i.natAbs < 2 ^ 64) = true then some (.int (i ^ j.toNat)) else none
theorem ok_pow {K : PySem.W.Frag} : OK2 K (rI CPow fun i j => .int (i ^ j.toNat)) powD false := ok_ii fun i j h => of_decide_eq_true (p := 0 ≤ j ∧ j ≤ 1000000 ∧ i.natAbs < 2 ^ 64) h
def negD : PyData → Option PyData
  | .int i => some (.int (-i))
  | _ => none
theorem ok_neg {K : PySem.W.Frag} : OK1 K (rU fun i => .int (-i)) negD false := by
  intro H v d F d' Q r hd k
  cases d with
  | int i =>
    simp only [negD] at hd
    cases hd
    cases r
    exact ⟨i, rfl, k _ _ _ (res_sc (.int _))⟩
  | _ => simp [negD] at hd

/-! ### comparisons -/
def cmpI (p : Int → Int → Bool) : PyData → PyData → Option PyData := ii fun i j => some (.bool (p i j))
theorem ok_cmpI {K : PySem.W.Frag} {p : Int → Int → Bool} : OK2 K (rI0 fun i j => .bl (p i j)) (cmpI p) false := by
  intro H v w d e F G d' Q r1 r2 hd k
  cases d with
  | int i =>
    cases e with
    | int j =>
      simp only [cmpI, ii] at hd
      cases hd
      cases r1
      cases r2
      exact ⟨i, j, rfl, rfl, k _ _ _ (res_sc (.bl _))⟩
    | _ => simp [cmpI, ii] at hd
  | _ => simp [cmpI, ii] at hd
abbrev ltD := cmpI fun i j => decide (i < j)
abbrev leD := cmpI fun i j => decide (i ≤ j)
abbrev gtD := cmpI fun i j => decide (j < i)
abbrev geD := cmpI fun i j => decide (j ≤ i)
def eqD (d e : PyData) : Option PyData := if (SeqAt.shaped d && SeqAt.shaped e) = true then some (.bool (PyData.eqv d e)) else none
def neD (d e : PyData) : Option PyData := if (SeqAt.shaped d && SeqAt.shaped e) = true then some (.bool (!PyData.eqv d e)) else none
theorem ok_eq {K : PySem.W.Frag} : OK2 K (rEqD K) eqD false := by
  intro H v w d e F G d' Q r1 r2 hd k
  unfold eqD at hd
  split at hd
  · rename_i h
    cases hd
    rw [Bool.and_eq_true] at h
    exact ⟨d, e, r1.dp (SeqAt.canLay_of_shaped h.1), r2.dp (SeqAt.canLay_of_shaped h.2), h.1, h.2, k _ _ _ (res_sc (.bl _))⟩
  · cases hd
theorem ok_ne {K : PySem.W.Frag} : OK2 K (rNeD K) neD false := by
  intro H v w d e F G d' Q r1 r2 hd k
  unfold neD at hd
  split at hd
  · rename_i h
    cases hd
    rw [Bool.and_eq_true] at h
    exact ⟨d, e, r1.dp (SeqAt.canLay_of_shaped h.1), r2.dp (SeqAt.canLay_of_shaped h.2), h.1, h.2, k _ _ _ (res_sc (.bl _))⟩
  · cases hd
def isNone : PyData → Bool
  | .none => true
  | _ => false
theorem Rep.isNon {K : PySem.W.Frag} {H : Hp} {v : V} {d : PyData} {F : List Addr} (r : Rep K H v d F) : decide (v = .non) = isNone d := by
  cases r <;> simp [isNone]
/-- x is None -/
def isND (d e : PyData) : Option PyData := if isNone e = true then some (.bool (isNone d)) else none
def notND (d e : PyData) : Option PyData := if isNone e = true then some (.bool (!isNone d)) else none
theorem non_of {K : PySem.W.Frag} {H : Hp} {v : V} {d : PyData} {F : List Addr} (r : Rep K H v d F) (h : isNone d = true) : v = .non := by
  cases d <;> simp [isNone] at h
  cases r
  rfl
theorem ok_isN {K : PySem.W.Frag} : OK2 K (fun x y H Q => y = .non ∧ Q (.bl (decide (x = .non))) H) isND false := by
  intro H v w d e F G d' Q r1 r2 hd k
  unfold isND at hd
  split at hd
  · rename_i h
    cases hd
    refine ⟨non_of r2 h, ?_⟩
    rw [r1.isNon]
    exact k _ _ _ (res_sc (.bl _))
  · cases hd
theorem ok_notN {K : PySem.W.Frag} : OK2 K (fun x y H Q => y = .non ∧ Q (.bl (!decide (x = .non))) H) notND false := by
  intro H v w d e F G d' Q r1 r2 hd k
  unfold notND at hd
  split at hd
  · rename_i h
    cases hd
    refine ⟨non_of r2 h, ?_⟩
    rw [r1.isNon]
    exact k _ _ _ (res_sc (.bl _))
  · cases hd
/-- x is True, of truth values -/
def bb (g : Bool → Bool → Bool) : PyData → PyData → Option PyData
  | .bool a, .bool b => some (.bool (g a b))
  | _, _ => none
abbrev isBD := bb fun a b => decide (a = b)
abbrev notBD := bb fun a b => !decide (a = b)
theorem ok_bb {K : PySem.W.Frag} {g : Bool → Bool → Bool} : OK2 K (fun x y H Q => ∃ a b : Bool, x = .bl a ∧ y = .bl b ∧ Q (.bl (g a b)) H) (bb g) false := by
  intro H v w d e F G d' Q r1 r2 hd k
  cases d with
  | bool a =>
    cases e with
    | bool b =>
      simp only [bb] at hd
      cases hd
      cases r1
      cases r2
      exact ⟨a, b, rfl, rfl, k _ _ _ (res_sc (.bl _))⟩
    | _ => simp [bb] at hd
  | _ => simp [bb] at hd

/-! ### a[i] -/
def ixD : PyData → PyData → Option PyData
  | .list xs, .int i => atI xs i
  | .tuple xs, .int i => atI xs i
  | .str z, .int i => if z.length ≤ lim then (atI z.cps.toList i).map fun c => .str ⟨#[c]⟩ else none
  | _, _ => none
theorem atI_rep {K : PySem.W.Frag} {H : Hp} {vs : List V} {ds : List PyData} {F : List Addr} {i : Int} {d : PyData} (l : RepL K H vs ds F) (h : atI ds i = some d) : ∃ v G, atI vs i = some v ∧ Rep K H v d G ∧ ∀ a ∈ G, a ∈ F := by
  unfold atI at h ⊢
  rw [l.length]
  cases e : ixN ds.length i with
  | none =>
    rw [e] at h
    cases h
  | some j =>
    rw [e] at h
    obtain ⟨v, G, h1, h2, h3⟩ := l.get (i := j) h
    exact ⟨v, G, h1, h2, h3⟩
theorem ok_ix {K : PySem.W.Frag} : OK2 K (rIx K) ixD false := by
  intro H v w d e F G d' Q r1 r2 hd k
  cases d with
  | list xs =>
    cases e with
    | int i =>
      simp only [ixD] at hd
      cases r2
      obtain ⟨a, vs, G1, rfl, h1, l1, s1⟩ := r1.sqL
      obtain ⟨y, G2, q1, q2, q3⟩ := atI_rep l1 hd
      exact .inl ⟨a, vs, i, y, rfl, rfl, h1, q1, k _ _ _ (res_here q2 fun b m => .inl (s1 b (q3 b m)))⟩
    | _ => simp [ixD] at hd
  | tuple xs =>
    cases e with
    | int i =>
      simp only [ixD] at hd
      cases r2
      obtain ⟨a, vs, rfl, h1, l1⟩ := r1.sqT
      obtain ⟨y, G2, q1, q2, q3⟩ := atI_rep l1 hd
      exact .inr (.inl ⟨a, vs, i, y, rfl, rfl, h1, q1, k _ _ _ (res_here q2 fun b m => .inl (by rw [inner_tup]; exact q3 b m))⟩)
    | _ => simp [ixD] at hd
  | str z =>
    cases e with
    | int i =>
      simp only [ixD] at hd
      split at hd
      · rename_i hz
        cases q : atI z.cps.toList i with
        | none =>
          rw [q] at hd
          cases hd
        | some c =>
          rw [q] at hd
          cases hd
          cases r1
          cases r2
          exact .inr (.inr ⟨z, i, c, rfl, rfl, lim_ok hz, q, k _ _ _ (res_sc (.str _))⟩)
      · cases hd
    | _ => simp [ixD] at hd
  | _ => simp [ixD] at hd

/-! ### built-ins of one value -/
def lenD : PyData → Option PyData
  | .list xs => some (.int xs.length)
  | .tuple xs => some (.int xs.length)
  | .str z => if z.length ≤ lim then some (.int z.length) else none
  | .dict kvs => some (.int kvs.length)
  | _ => none
end DV

set_option Elab.async false
set_option linter.all false
set_option maxRecDepth 100000
set_option maxHeartbeats 2000000
namespace DV
open PySem L2

/-! ### tests, truth, choice -/
def notB (f : Env → Rs Bool) : Env → Rs Bool := fun env => (f env).bind fun b e => .ok (!b) e
def andB (f g : Env → Rs Bool) : Env → Rs Bool := fun env => (f env).bind fun b e => if b = true then g e else .ok false e
def orB (f g : Env → Rs Bool) : Env → Rs Bool := fun env => (f env).bind fun b e => if b = true then .ok true e else g e
def valB (f : Env → Rs Bool) : Env → Rs PyData := fun env => (f env).bind fun b e => .ok (.bool b) e
def ifE (c : Env → Rs Bool) (f g : Env → Rs PyData) : Env → Rs PyData := fun env => (c env).bind fun b e => if b = true then f e else g e
section
variable {C : Ct} {U Rv Rv2 U1 U2 U3 : List Nat} {a b c e : Expr} {es rest : List Expr} {f f1 f2 : Env → Rs PyData} {c1 c2 : Env → Rs Bool} {kd k1 k2 : Kd} {fr : Bool} {pos : Pos}
theorem DT.w (h : DW C U Rv e c1 U1) : DT C U Rv e c1 U1 := by
  obtain ⟨h1, t, hp, hs⟩ := h
  exact ⟨h1, t, fun x => (hp x).pt, hs⟩
theorem dt_weak (h : DT C U Rv e c1 U1) (hU : ∀ i ∈ U2, i ∈ U1) : DT C U Rv e c1 U2 := by
  obtain ⟨h1, t, hp, hs⟩ := h
  exact ⟨fun i hi => h1 i (hU i hi), t, hp, fun σ H env Fs Q R hw => hs σ H env Fs Q R (wp_mono hw fun b e k H' Fs' p => k H' Fs' (p.weak hU))⟩
theorem dt_not (h : DT C U Rv a c1 U1) : DT C U Rv (.UnaryOp .Not a pos) (notB c1) U1 := by
  obtain ⟨h1, t, hp, hs⟩ := h
  refine ⟨h1, tNot t, fun x => pt_not (hp x), fun σ H env Fs Q R hw => hs σ H env Fs _ R ?_⟩
  unfold notB at hw
  rw [wp_bind] at hw
  exact wp_mono hw fun b e k H' Fs' p => k H' Fs' p
theorem dw_and1 (h : DT C U Rv a c1 U1) : DW C U Rv (.BoolOp .And [a] pos) c1 U1 := by
  obtain ⟨h1, t, hp, hs⟩ := h
  exact ⟨h1, t, fun x => pw_and1 (hp x), hs⟩
theorem dw_or1 (h : DT C U Rv a c1 U1) : DW C U Rv (.BoolOp .Or [a] pos) c1 U1 := by
  obtain ⟨h1, t, hp, hs⟩ := h
  exact ⟨h1, t, fun x => pw_or1 (hp x), hs⟩
theorem dw_and (h : DT C U Rv a c1 U1) (g : DW C U1 Rv (.BoolOp .And (b :: rest) pos) c2 U2) : DW C U Rv (.BoolOp .And (a :: b :: rest) pos) (andB c1 c2) U2 := by
  obtain ⟨h1, t, hp, hs⟩ := h
  obtain ⟨g1, u, gp, gs⟩ := g
  refine ⟨fun i hi => h1 i (g1 i hi), tAnd t u, fun x => pw_and (hp x) (gp x), fun σ H env Fs Q R hw => hs σ H env Fs _ R ?_⟩
  unfold andB at hw
  rw [wp_bind] at hw
  refine wp_mono hw fun b e k H1 Fs1 p => ?_
  cases b with
  | true => exact gs σ H1 e Fs1 Q p.env (wp_mono k fun b2 e2 k H2 Fs2 q => k H2 Fs2 (p.trans q h1 fun _ z => z))
  | false => exact k H1 Fs1 (p.weak g1)
theorem dw_or (h : DT C U Rv a c1 U1) (g : DW C U1 Rv (.BoolOp .Or (b :: rest) pos) c2 U2) : DW C U Rv (.BoolOp .Or (a :: b :: rest) pos) (orB c1 c2) U2 := by
  obtain ⟨h1, t, hp, hs⟩ := h
  obtain ⟨g1, u, gp, gs⟩ := g
  refine ⟨fun i hi => h1 i (g1 i hi), tOr t u, fun x => pw_or (hp x) (gp x), fun σ H env Fs Q R hw => hs σ H env Fs _ R ?_⟩
  unfold orB at hw
  rw [wp_bind] at hw
  refine wp_mono hw fun b e k H1 Fs1 p => ?_
  cases b with
  | false => exact gs σ H1 e Fs1 Q p.env (wp_mono k fun b2 e2 k H2 Fs2 q => k H2 Fs2 (p.trans q h1 fun _ z => z))
  | true => exact k H1 Fs1 (p.weak g1)
/-- a value's truth -/
def truD : PyData → Option Bool
  | .none => some false
  | .bool b => some b
  | .int i => some (i != 0)
  | .str z => if z.length ≤ lim then some ((z.length : Int) != 0) else none
  | .list xs => some (!xs.isEmpty)
  | .tuple xs => some (!xs.isEmpty)
  | _ => none
def truB (f : Env → Rs PyData) : Env → Rs Bool := fun env => (f env).bind fun d e => Rs.of (truD d) e
theorem RepL.empty {K : PySem.W.Frag} {H : Hp} {vs : List V} {ds : List PyData} {F : List Addr} (l : RepL K H vs ds F) : vs.isEmpty = ds.isEmpty := by
  cases l <;> rfl
theorem Rep.tru {K : PySem.W.Frag} {H : Hp} {v : V} {d : PyData} {F : List Addr} {b : Bool} (r : Rep K H v d F) (h : truD d = some b) : TruV K v H b := by
  cases d with
  | none =>
    simp only [truD] at h
    cases h
    cases r
    rfl
  | bool x =>
    simp only [truD] at h
    cases h
    cases r
    rfl
  | int x =>
    simp only [truD] at h
    cases h
    cases r
    rfl
  | str z =>
    simp only [truD] at h
    split at h
    · rename_i hz
      cases h
      cases r
      exact ⟨lim_ok hz, rfl⟩
    · cases h
  | list xs =>
    simp only [truD] at h
    cases h
    obtain ⟨a, vs, G, rfl, h1, l, _⟩ := r.sqL
    exact .inl ⟨vs, h1, by rw [l.empty]⟩
  | tuple xs =>
    simp only [truD] at h
    cases h
    obtain ⟨a, vs, rfl, h1, l⟩ := r.sqT
    exact .inr (.inl ⟨vs, h1, by rw [l.empty]⟩)
  | dict _ => simp [truD] at h
theorem dt_tru (h : DE C U Rv e f U1 kd) (he : ∀ x whole, isTrue e (C.X x).env whole = (do let v ← whole; standAt e.pos; holding [v] (truthy v)) := by intro _ _; rfl) : DT C U Rv e (truB f) U1 := by
  obtain ⟨h1, t, hp, hs⟩ := h
  refine ⟨h1, fun σ H Q => t σ H fun x H' => ∃ k, TruV C.K x H' k ∧ Q k H', fun x => ?_, fun σ H env Fs Q R hw => hs σ H env Fs _ R ?_⟩
  · have := pt_truth (hp x) (he x)
    rw [C.hK x] at this
    exact this
  · unfold truB at hw
    rw [wp_bind] at hw
    refine wp_mono hw fun d e k v H' Fs' F p => ?_
    obtain ⟨b, hb, k⟩ := wp_of k
    exact ⟨b, p.rep.tru hb, k H' Fs' p.t⟩
/-- a if c else b; what both ways leave: U3, k -/
theorem de_if (hc : DT C U Rv c c1 U1) (ha : DE C U1 Rv a f1 U2 kd) (hb : DE C U1 Rv b f2 U2 kd) : DE C U Rv (.IfExp c a b pos) (ifE c1 f1 f2) U2 kd := by
  obtain ⟨h1, t, hp, hs⟩ := hc
  obtain ⟨g1, u, gp, gs⟩ := ha
  obtain ⟨l1, w, lp, ls⟩ := hb
  refine ⟨fun i hi => h1 i (g1 i hi), tIf t u w, fun x => pe_ifExp (hp x) (gp x) (lp x), fun σ H env Fs Q R hw => hs σ H env Fs _ R ?_⟩
  unfold ifE at hw
  rw [wp_bind] at hw
  have tr : ∀ {H1 : Hp} {Fs1 : Nat → List Addr} {e1 e2 : Env} {d : PyData} {v : V} {H2 : Hp} {Fs2 : Nat → List Addr} {F : List Addr}, TPost C U Rv σ H Fs U1 e1 H1 Fs1 → EPost C U1 Rv σ H1 Fs1 U2 kd d e2 v H2 Fs2 F → EPost C U Rv σ H Fs U2 kd d e2 v H2 Fs2 F := fun {H1 Fs1 e1 e2 d v H2 Fs2 F} p q => by
    have T := p.trans q.t h1 fun _ z => z
    refine ⟨T.env, T.keep, T.dom, T.grow, q.rep, fun a m => ?_, q.knd, fun e a ha => ?_⟩
    · rcases q.fgrow a m with ⟨k, hk⟩ | z
      · exact p.grow k a hk
      · exact .inr (p.dom a z)
    · rcases q.frw e a ha with z | ⟨i, h1', h2, h3⟩
      · exact .inl (p.dom a z)
      · exact .inr ⟨i, h1 i h1', h2, h3⟩
  refine wp_mono hw fun b e k H1 Fs1 p => ?_
  cases b with
  | true => exact gs σ H1 e Fs1 Q p.env (wp_mono k fun d e2 k v H2 Fs2 F q => k v H2 Fs2 F (tr p q))
  | false => exact ls σ H1 e Fs1 Q p.env (wp_mono k fun d e2 k v H2 Fs2 F q => k v H2 Fs2 F (tr p q))
/-! truth values by and, or, not -/
def andV (f g : Env → Rs PyData) : Env → Rs PyData := fun env => (f env).bind fun d e => (Rs.of (boolOf d) e).bind fun b e => if b = true then g e else .ok (.bool false) e
def orV (f g : Env → Rs PyData) : Env → Rs PyData := fun env => (f env).bind fun d e => (Rs.of (boolOf d) e).bind fun b e => if b = true then .ok (.bool true) e else g e
def notV (f : Env → Rs PyData) : Env → Rs PyData := fun env => (f env).bind fun d e => (Rs.of (boolOf d) e).bind fun b e => .ok (.bool (!b)) e
theorem boolOf_eq {d : PyData} {b : Bool} (h : boolOf d = some b) : d = .bool b := by
  cases d <;> simp [boolOf] at h
  rw [h]
theorem de_one {op} (h : DE C U Rv a f U1 kd) : DE C U Rv (.BoolOp op [a] pos) f U1 kd := by
  obtain ⟨h1, t, hp, hs⟩ := h
  exact ⟨h1, t, fun x => pe_one (hp x), hs⟩
theorem de_and (h : DE C U Rv a f1 U1 .cl) (g : DE C U1 Rv (.BoolOp .And (b :: rest) pos) f2 U2 .cl) : DE C U Rv (.BoolOp .And (a :: b :: rest) pos) (andV f1 f2) U2 .cl := by
  obtain ⟨h1, t, hp, hs⟩ := h
  obtain ⟨g1, u, gp, gs⟩ := g
  refine ⟨fun i hi => h1 i (g1 i hi), tAndV t u, fun x => pe_and (hp x) (gp x), fun σ H env Fs Q R hw => hs σ H env Fs _ R ?_⟩
  unfold andV at hw
  rw [wp_bind] at hw
  refine wp_mono hw fun d e k v H1 Fs1 F p => ?_
  rw [wp_bind] at k
  obtain ⟨b, hb, k⟩ := wp_of k
  have hd := boolOf_eq hb
  subst hd
  have r := p.rep
  cases r
  refine ⟨b, rfl, ?_⟩
  cases b with
  | true =>
    refine gs σ H1 e Fs1 Q p.env (wp_mono k fun d e2 k v H2 Fs2 F q => k v H2 Fs2 F ?_)
    have T := p.t.trans q.t h1 fun _ z => z
    refine ⟨T.env, T.keep, T.dom, T.grow, q.rep, fun a m => ?_, q.knd, fun z => nomatch z⟩
    rcases q.fgrow a m with ⟨k, hk⟩ | z
    · exact p.grow k a hk
    · exact .inr (p.dom a z)
  | false => exact k _ H1 Fs1 [] (p.weak g1 Clean.nil fun z => nomatch z)
theorem de_or (h : DE C U Rv a f1 U1 .cl) (g : DE C U1 Rv (.BoolOp .Or (b :: rest) pos) f2 U2 .cl) : DE C U Rv (.BoolOp .Or (a :: b :: rest) pos) (orV f1 f2) U2 .cl := by
  obtain ⟨h1, t, hp, hs⟩ := h
  obtain ⟨g1, u, gp, gs⟩ := g
  refine ⟨fun i hi => h1 i (g1 i hi), tOrV t u, fun x => pe_or (hp x) (gp x), fun σ H env Fs Q R hw => hs σ H env Fs _ R ?_⟩
  unfold orV at hw
  rw [wp_bind] at hw
  refine wp_mono hw fun d e k v H1 Fs1 F p => ?_
  rw [wp_bind] at k
  obtain ⟨b, hb, k⟩ := wp_of k
  have hd := boolOf_eq hb
  subst hd
  have r := p.rep
  cases r
  refine ⟨b, rfl, ?_⟩
  cases b with
  | false =>
    refine gs σ H1 e Fs1 Q p.env (wp_mono k fun d e2 k v H2 Fs2 F q => k v H2 Fs2 F ?_)
    have T := p.t.trans q.t h1 fun _ z => z
    refine ⟨T.env, T.keep, T.dom, T.grow, q.rep, fun a m => ?_, q.knd, fun z => nomatch z⟩
    rcases q.fgrow a m with ⟨k, hk⟩ | z
    · exact p.grow k a hk
    · exact .inr (p.dom a z)
  | true => exact k _ H1 Fs1 [] (p.weak g1 Clean.nil fun z => nomatch z)
theorem de_not (h : DE C U Rv a f1 U1 .cl) : DE C U Rv (.UnaryOp .Not a pos) (notV f1) U1 .cl := by
  obtain ⟨h1, t, hp, hs⟩ := h
  refine ⟨h1, tNotV t, fun x => pe_not (hp x), fun σ H env Fs Q R hw => hs σ H env Fs _ R ?_⟩
  unfold notV at hw
  rw [wp_bind] at hw
  refine wp_mono hw fun d e k v H1 Fs1 F p => ?_
  rw [wp_bind] at k
  obtain ⟨b, hb, k⟩ := wp_of k
  have hd := boolOf_eq hb
  subst hd
  have r := p.rep
  cases r
  exact ⟨b, rfl, k _ H1 Fs1 [] ⟨p.env, p.keep, p.dom, p.grow, .bl _, (fun _ m => nomatch m), Clean.nil, fun z => nomatch z⟩⟩
end

/-! ### displays -/
def tupE (f : Env → Rs (List PyData)) : Env → Rs PyData := fun env => (f env).bind fun ds e => if ds.length ≤ lim then .ok (.tuple ds) e else .bad
def lstE (f : Env → Rs (List PyData)) : Env → Rs PyData := fun env => (f env).bind fun ds e => if ds.length ≤ lim then .ok (.list ds) e else .bad
/-- no argument is a slot of U -/
def noBr : List Kd → Bool
  | [] => true
  | .br _ :: _ => false
  | _ :: r => noBr r
section
variable {C : Ct} {U Rv U1 : List Nat} {es : List Expr} {fa : Env → Rs (List PyData)} {kds : List Kd} {pos : Pos}
def flatF (FF : List (List Addr)) : List Addr := FF.foldr (· ++ ·) []
theorem AIts.repL {σ : St} {H : Hp} {Fs0 : Nat → List Addr} {Hx : Hp} : ∀ {vs : List V} {ds : List PyData} {FF : List (List Addr)} {kds : List Kd}, AIts C U σ H Fs0 Hx vs ds FF kds → RepL C.K H vs ds (flatF FF) ∧ ∀ a ∈ flatF FF, (∃ k, a ∈ Fs0 k) ∨ Hx a = none
  | _, _, _, _, .nil => ⟨.nil, fun _ m => nomatch m⟩
  | _, _, _, _, .cons a r => by
    obtain ⟨h1, h2⟩ := AIts.repL r
    exact ⟨.cons a.rep h1, fun b m => (List.mem_append.mp m).elim (a.fgrow b) (h2 b)⟩
/-- all kinds are clean ones -/
def allCl : List Kd → Bool
  | [] => true
  | .cl :: r => allCl r
  | _ :: _ => false
theorem AIts.clean {σ : St} {H : Hp} {Fs0 : Nat → List Addr} {Hx : Hp} : ∀ {vs : List V} {ds : List PyData} {FF : List (List Addr)} {kds : List Kd}, AIts C U σ H Fs0 Hx vs ds FF kds → allCl kds = true → Clean U σ (flatF FF)
  | _, _, _, _, .nil, _ => Clean.nil
  | _, _, _, kd :: _, .cons a r, h => by
    cases kd with
    | cl => exact (a.cln rfl).append (AIts.clean r h)
    | fr => cases h
    | br i => cases h
theorem de_tup {k} (ha : DA C U Rv es fa U1 kds) (hk : allCl kds = true) : DE C U Rv (.Tuple es k pos) (tupE fa) U1 .cl := by
  obtain ⟨h1, t, hp, hs⟩ := ha
  refine ⟨h1, tTup t, fun x => pe_tup (hp x), fun σ H env Fs Q R hw => hs σ H env Fs _ R ?_⟩
  unfold tupE at hw
  rw [wp_bind] at hw
  refine wp_mono hw fun ds e k vs H1 Fs1 FF p as => ?_
  split at k
  · rename_i hz
    obtain ⟨l, g⟩ := as.repL
    have cl := as.clean hk
    refine ⟨by rw [l.length]; exact lim_ok hz, fun q nq => k _ _ Fs1 _ (post_of_res (fr := false) (P := fun a => a ∈ flatF FF) p (res_tup nq l fun a m => .inl m) (fun i hi a e m => cl i hi a e m) fun a m => g a m)⟩
  · exact k.elim
theorem de_lst (ha : DA C U Rv es fa U1 kds) (hk : allCl kds = true) : DE C U Rv (.List es pos) (lstE fa) U1 .fr := by
  obtain ⟨h1, t, hp, hs⟩ := ha
  refine ⟨h1, tLst t, fun x => pe_lst (hp x), fun σ H env Fs Q R hw => hs σ H env Fs _ R ?_⟩
  unfold lstE at hw
  rw [wp_bind] at hw
  refine wp_mono hw fun ds e k vs H1 Fs1 FF p as => ?_
  split at k
  · rename_i hz
    obtain ⟨l, g⟩ := as.repL
    have cl := as.clean hk
    refine ⟨by rw [l.length]; exact lim_ok hz, fun q nq => k _ _ Fs1 _ (post_of_res (fr := true) (P := fun a => a ∈ flatF FF) p (res_lst nq l fun a m => .inl m) (fun i hi a e m => cl i hi a e m) fun a m => g a m)⟩
  · exact k.elim
/-- {} with keys that are ints, texts | tuples -/
theorem de_dicK : DE C U Rv (.Dict [] [] pos) (cstE (.dict [])) U .fr := by
  refine ⟨fun _ h => h, tDNewK, fun x => pe_dnewK, fun σ H env Fs Q R hw p np => hw _ _ Fs [p] ?_⟩
  exact post_of_res (fr := true) (P := fun _ => False) (TPost.refl R) ⟨same_new np, .dctK (kvs := []) (.inl upd_same) .nil, fun a m => .inr (by rw [List.mem_singleton.mp m]; exact np), fun _ => ⟨p, [], rfl, rfl, List.not_mem_nil, rfl, np, .inr (.inl ⟨_, upd_same⟩)⟩⟩ (fun _ _ _ _ z => z) fun _ z => z.elim
theorem de_dicT : DE C U Rv (.Dict [] [] pos) (cstE (.dict [(.none, .none)])) U .fr := by
  refine ⟨fun _ h => h, tDNewT, fun x => pe_dnewT, fun σ H env Fs Q R hw p np => hw _ _ Fs [p] ?_⟩
  exact post_of_res (fr := true) (P := fun _ => False) (TPost.refl R) ⟨same_new np, .dctT (kvs := []) (.inl upd_same) .nil, fun a m => .inr (by rw [List.mem_singleton.mp m]; exact np), fun _ => ⟨p, [], rfl, rfl, List.not_mem_nil, rfl, np, .inr (.inr ⟨_, upd_same⟩)⟩⟩ (fun _ _ _ _ z => z) fun _ z => z.elim
end
end DV

set_option Elab.async false
set_option linter.all false
set_option maxRecDepth 100000
set_option maxHeartbeats 2000000
namespace DV
open PySem L2

/-! ### statements -/
inductive Fl where
  | nx
  | bk
  | ct
  | rt (d : PyData)
/-- what is wanted at the ends of a block: the slots of U at break, continue, return; the kind of what is returned -/
structure Ex where
  b : List Nat
  c : List Nat
  r : List Nat
  k : Kd
structure SPost (C : Ct) (U Rv : List Nat) (σ : St) (H : Hp) (Fs : Nat → List Addr) (U' : List Nat) (σ' : St) (H' : Hp) (env' : Env) (Fs' : Nat → List Addr) : Prop where
  env : EnvR C.K C.H0 C.M U' σ' H' env' Fs'
  keep : Keep (Wr U Rv σ) H H'
  dom : ∀ a, H' a = none → H a = none
  grow : ∀ j a, a ∈ Fs' j → (∃ k, a ∈ Fs k) ∨ H a = none
  root : ∀ i ∈ U', i ∉ Rv → ∀ a, σ'[i]? = some (some (.ref a)) → Wr U Rv σ a ∨ H a = none
  fix : ∀ i, i ∈ C.M ∨ i ∈ Rv → σ'[i]? = σ[i]?
  res : ∀ i ∈ U', i ∈ Rv → i ∈ U
structure RPost (C : Ct) (U Rv : List Nat) (σ : St) (H : Hp) (Fs : Nat → List Addr) (U' : List Nat) (kd : Kd) (d : PyData) (env' : Env) (v : V) (σ' : St) (H' : Hp) (Fs' : Nat → List Addr) (F : List Addr) : Prop where
  s : SPost C U Rv σ H Fs U' σ' H' env' Fs'
  rep : Rep C.K H' v d F
  fgrow : ∀ a ∈ F, (∃ k, a ∈ Fs k) ∨ H a = none
  knd : KdOk C.H0 U' σ' H' Fs' v d F kd
/-- what holds at an end -/
def EndOk (C : Ct) (U Rv : List Nat) (σ : St) (H : Hp) (Fs : Nat → List Addr) (Un : List Nat) (x : Ex) (D : Ends) (fl : Fl) (env' : Env) : Prop := match fl with
  | .nx => ∀ σ' H' Fs', SPost C U Rv σ H Fs Un σ' H' env' Fs' → D.nx σ' H'
  | .bk => ∀ σ' H' Fs', SPost C U Rv σ H Fs x.b σ' H' env' Fs' → D.bk σ' H'
  | .ct => ∀ σ' H' Fs', SPost C U Rv σ H Fs x.c σ' H' env' Fs' → D.ct σ' H'
  | .rt d => ∀ v σ' H' Fs' F, RPost C U Rv σ H Fs x.r x.k d env' v σ' H' Fs' F → D.rt v H'
def DS (C : Ct) (U Rv : List Nat) (s : Stmt) (f : Env → Rs Fl) (Un : List Nat) (x : Ex) : Prop :=
  ∃ t : TS, (∀ z, PS (C.X z) s t) ∧ ∀ (σ : St) (H : Hp) (env : Env) (Fs : Nat → List Addr) (D : Ends), EnvR C.K C.H0 C.M U σ H env Fs → (f env).wp (EndOk C U Rv σ H Fs Un x D) (EC C) → t D σ H
def DSs (C : Ct) (U Rv : List Nat) (s : List Stmt) (f : Env → Rs Fl) (Un : List Nat) (x : Ex) : Prop :=
  ∃ t : TS, (∀ z, PSs (C.X z) s t) ∧ ∀ (σ : St) (H : Hp) (env : Env) (Fs : Nat → List Addr) (D : Ends), EnvR C.K C.H0 C.M U σ H env Fs → (f env).wp (EndOk C U Rv σ H Fs Un x D) (EC C) → t D σ H
section
variable {C : Ct} {U Rv U1 U2 Un : List Nat} {σ σ1 σ2 : St} {H H1 H2 : Hp} {Fs Fs1 Fs2 : Nat → List Addr} {env1 env2 : Env} {x : Ex}
theorem SPost.refl {env : Env} (R : EnvR C.K C.H0 C.M U σ H env Fs) : SPost C U Rv σ H Fs U σ H env Fs := ⟨R, Keep.refl, fun _ e => e, fun j a h => .inl ⟨j, h⟩, fun i hi hr a e => .inl ⟨i, hi, hr, e⟩, fun _ _ => rfl, fun _ h _ => h⟩
theorem SPost.weak (p : SPost C U Rv σ H Fs U1 σ1 H1 env1 Fs1) (h : ∀ i ∈ U2, i ∈ U1) : SPost C U Rv σ H Fs U2 σ1 H1 env1 Fs1 := ⟨p.env.weak h, p.keep, p.dom, p.grow, fun i hi => p.root i (h i hi), p.fix, fun i hi => p.res i (h i hi)⟩
theorem SPost.trans {Rv2 : List Nat} (p : SPost C U Rv σ H Fs U1 σ1 H1 env1 Fs1) (q : SPost C U1 Rv2 σ1 H1 Fs1 U2 σ2 H2 env2 Fs2) (hR : ∀ i ∈ Rv, i ∈ Rv2) : SPost C U Rv σ H Fs U2 σ2 H2 env2 Fs2 := by
  have tr : ∀ a, Wr U1 Rv2 σ1 a → Wr U Rv σ a ∨ H a = none := fun a ⟨i, h1, h2, h3⟩ => p.root i h1 (fun z => h2 (hR i z)) a h3
  refine ⟨q.env, p.keep.trans q.keep fun a n h => (tr a h).resolve_right n, fun a e => p.dom a (q.dom a e), fun j a h => ?_, fun i hi hr a e => ?_, fun i h => (q.fix i (h.imp id (hR i))).trans (p.fix i h), fun i h hr => p.res i (q.res i h (hR i hr)) hr⟩
  · rcases q.grow j a h with ⟨k, hk⟩ | h
    · exact p.grow k a hk
    · exact .inr (p.dom a h)
  · by_cases hr2 : i ∈ Rv2
    · -- reserved: as it was
      have e1 := (q.fix i (.inr hr2)).symm.trans e
      exact p.root i (q.res i hi hr2) hr a e1
    · rcases q.root i hi hr2 a e with h | z
      · exact tr a h
      · exact .inr (p.dom a z)
theorem SPost.ofT {env : Env} {σ : St} (p : TPost C U Rv σ H Fs U1 env1 H1 Fs1) (hU : ∀ i ∈ U1, i ∈ U) : SPost C U Rv σ H Fs U1 σ H1 env1 Fs1 := ⟨p.env, p.keep, p.dom, p.grow, fun i hi hr a e => .inl ⟨i, hU i hi, hr, e⟩, (fun _ _ => rfl), fun i h _ => hU i h⟩
theorem RPost.pre {Rv2 : List Nat} {kd : Kd} {d : PyData} {v : V} {F : List Addr} (p : SPost C U Rv σ H Fs U1 σ1 H1 env1 Fs1) (q : RPost C U1 Rv2 σ1 H1 Fs1 U2 kd d env2 v σ2 H2 Fs2 F) (hR : ∀ i ∈ Rv, i ∈ Rv2) : RPost C U Rv σ H Fs U2 kd d env2 v σ2 H2 Fs2 F :=
  ⟨p.trans q.s hR, q.rep, fun a m => by
    rcases q.fgrow a m with ⟨k, hk⟩ | h
    · exact p.grow k a hk
    · exact .inr (p.dom a h), q.knd⟩
/-- ends behind a first part -/
theorem EndOk.pre {Rv2 : List Nat} {D : Ends} {fl : Fl} {env' : Env} (p : SPost C U Rv σ H Fs U1 σ1 H1 env1 Fs1) (hR : ∀ i ∈ Rv, i ∈ Rv2) (h : EndOk C U Rv σ H Fs Un x D fl env') : EndOk C U1 Rv2 σ1 H1 Fs1 Un x D fl env' := by
  cases fl with
  | nx => exact fun σ' H' Fs' q => h σ' H' Fs' (p.trans q hR)
  | bk => exact fun σ' H' Fs' q => h σ' H' Fs' (p.trans q hR)
  | ct => exact fun σ' H' Fs' q => h σ' H' Fs' (p.trans q hR)
  | rt d => exact fun v σ' H' Fs' F q => h v σ' H' Fs' F (q.pre p hR)

/-! ### blocks -/
def seqS (f g : Env → Rs Fl) : Env → Rs Fl := fun env => (f env).bind fun fl e => match fl with
  | .nx => g e
  | o => .ok o e
def nilS : Env → Rs Fl := fun env => .ok .nx env
variable {s : Stmt} {rest : List Stmt} {f g : Env → Rs Fl} {e : Expr} {fe : Env → Rs PyData} {kd : Kd} {pos : Pos}
theorem dss_nil : DSs C U Rv [] nilS U x := ⟨tNext, fun _ => pss_nil, fun σ H env Fs D R h => h σ H Fs (SPost.refl R)⟩
theorem dss_cons (h1 : DS C U Rv s f U1 x) (h2 : DSs C U1 Rv rest g U2 x) : DSs C U Rv (s :: rest) (seqS f g) U2 x := by
  obtain ⟨t, hp, hs⟩ := h1
  obtain ⟨u, gp, gs⟩ := h2
  refine ⟨tSeq t u, fun z => pss_cons (hp z) (gp z), fun σ H env Fs D R hw => hs σ H env Fs { D with nx := u D } R ?_⟩
  unfold seqS at hw
  rw [wp_bind] at hw
  refine wp_mono hw fun fl e k => ?_
  cases fl with
  | nx => exact fun σ' H' Fs' p => gs σ' H' e Fs' D p.env (wp_mono k fun fl2 e2 k2 => EndOk.pre p (fun _ z => z) k2)
  | bk => exact k
  | ct => exact k
  | rt d => exact k
theorem dss_one (h1 : DS C U Rv s f U1 x) : DSs C U Rv [s] f U1 x := by
  obtain ⟨t, hp, hs⟩ := h1
  exact ⟨t, fun z => pss_one (hp z), hs⟩
theorem dss_weak (h : DSs C U Rv rest f U1 x) (hU : ∀ i ∈ U2, i ∈ U1) : DSs C U Rv rest f U2 x := by
  obtain ⟨t, hp, hs⟩ := h
  refine ⟨t, hp, fun σ H env Fs D R hw => hs σ H env Fs D R (wp_mono hw fun fl e k => ?_)⟩
  cases fl with
  | nx => exact fun σ' H' Fs' p => k σ' H' Fs' (p.weak hU)
  | bk => exact k
  | ct => exact k
  | rt d => exact k
theorem ds_weak (h : DS C U Rv s f U1 x) (hU : ∀ i ∈ U2, i ∈ U1) : DS C U Rv s f U2 x := by
  obtain ⟨t, hp, hs⟩ := h
  refine ⟨t, hp, fun σ H env Fs D R hw => hs σ H env Fs D R (wp_mono hw fun fl e k => ?_)⟩
  cases fl with
  | nx => exact fun σ' H' Fs' p => k σ' H' Fs' (p.weak hU)
  | bk => exact k
  | ct => exact k
  | rt d => exact k
/-- a block that never comes to its end -/
theorem ds_pass : DS C U Rv (.Pass pos) nilS U x := ⟨tNext, fun _ => ps_pass, fun σ H env Fs D R h => h σ H Fs (SPost.refl R)⟩
def breakS : Env → Rs Fl := fun env => .ok .bk env
def contS : Env → Rs Fl := fun env => .ok .ct env
theorem ds_break (hU : ∀ i ∈ x.b, i ∈ U) : DS C U Rv (.Break pos) breakS U2 x := ⟨tBreak, fun _ => ps_break, fun σ H env Fs D R h => h σ H Fs ((SPost.refl R).weak hU)⟩
theorem ds_cont (hU : ∀ i ∈ x.c, i ∈ U) : DS C U Rv (.Continue pos) contS U2 x := ⟨tCont, fun _ => ps_continue, fun σ H env Fs D R h => h σ H Fs ((SPost.refl R).weak hU)⟩
def dropS (f : Env → Rs PyData) : Env → Rs Fl := fun env => (f env).bind fun _ e => .ok .nx e
theorem ds_expr (he : DE C U Rv e fe U1 kd) (hs : ∀ z, swapsWith e none pos.line (C.X z).env = pure false := by intro _; rfl) : DS C U Rv (.Expr e pos) (dropS fe) U1 x := by
  obtain ⟨h1, t, hp, hw⟩ := he
  refine ⟨tDrop t, fun z => ps_expr (hp z) (hs z), fun σ H env Fs D R h => hw σ H env Fs _ R ?_⟩
  unfold dropS at h
  rw [wp_bind] at h
  exact wp_mono h fun d e k v H' Fs' F p => k σ H' Fs' (SPost.ofT (env := env) p.t h1)
/-- a text alone -/
theorem ds_doc {y : Str} {j pos'} : DS C U Rv (.Expr (.Constant (.str y) j pos) pos') nilS U x := ⟨tNext, fun _ => ps_doc, fun σ H env Fs D R h => h σ H Fs (SPost.refl R)⟩
def retS (f : Env → Rs PyData) : Env → Rs Fl := fun env => (f env).bind fun d e => .ok (.rt d) e
theorem ds_ret (he : DE C U Rv e fe U1 x.k) (hU : ∀ i ∈ x.r, i ∈ U1) (hk : ∀ (U1 : List Nat) σ H Fs v d F, KdOk C.H0 U1 σ H Fs v d F x.k → (∀ i ∈ x.r, i ∈ U1) → KdOk C.H0 x.r σ H Fs v d F x.k) : DS C U Rv (.Return (some e) pos) (retS fe) U2 x := by
  obtain ⟨h1, t, hp, hw⟩ := he
  refine ⟨tRet t, fun z => ps_ret (hp z), fun σ H env Fs D R h => hw σ H env Fs _ R ?_⟩
  unfold retS at h
  rw [wp_bind] at h
  exact wp_mono h fun d e k v H' Fs' F p => k v σ H' Fs' F ⟨(SPost.ofT (env := env) p.t h1).weak hU, p.rep, p.fgrow, hk _ _ _ _ _ _ _ p.knd hU⟩
theorem kd_cl {U1 Ur : List Nat} {H0 : Hp} {v : V} {d : PyData} {F : List Addr} (h : KdOk H0 U1 σ H Fs v d F .cl) (hU : ∀ i ∈ Ur, i ∈ U1) : KdOk H0 Ur σ H Fs v d F .cl := Clean.weak h hU
theorem kd_fr {U1 Ur : List Nat} {H0 : Hp} {v : V} {d : PyData} {F : List Addr} (h : KdOk H0 U1 σ H Fs v d F .fr) (hU : ∀ i ∈ Ur, i ∈ U1) : KdOk H0 Ur σ H Fs v d F .fr := by
  obtain ⟨a, G, h1, h2, h3, h4, h5, h6, h7, h8⟩ := h
  exact ⟨a, G, h1, h2, h3, h4, h5, h6, h7, h8.weak hU⟩
def retN : Env → Rs Fl := fun env => .ok (.rt .none) env
theorem ds_retN (hU : ∀ i ∈ x.r, i ∈ U) (hk : x.k = .cl) : DS C U Rv (.Return none pos) retN U2 x := by
  refine ⟨tRetN, fun z => ps_retN, fun σ H env Fs D R h => h .non σ H Fs [] ⟨(SPost.refl R).weak hU, .non, (fun _ m => nomatch m), ?_⟩⟩
  rw [hk]
  exact Clean.nil
def ifS (c : Env → Rs Bool) (f g : Env → Rs Fl) : Env → Rs Fl := fun env => (c env).bind fun b e => if b = true then f e else g e
variable {c : Expr} {fc : Env → Rs Bool} {sa sb : List Stmt}
theorem ds_if (hc : DT C U Rv c fc U1) (ha : DSs C U1 Rv sa f U2 x) (hb : DSs C U1 Rv sb g U2 x) : DS C U Rv (.If c sa sb pos) (ifS fc f g) U2 x := by
  obtain ⟨h1, t, hp, hs⟩ := hc
  obtain ⟨u, up, us⟩ := ha
  obtain ⟨w, wp', ws⟩ := hb
  refine ⟨tIfS t u w, fun z => ps_if (hp z) (up z) (wp' z), fun σ H env Fs D R h => hs σ H env Fs _ R ?_⟩
  unfold ifS at h
  rw [wp_bind] at h
  refine wp_mono h fun b e k H' Fs' p => ?_
  have P : SPost C U Rv σ H Fs U1 σ H' e Fs' := SPost.ofT (env := env) p h1
  cases b with
  | true => exact us σ H' e Fs' D p.env (wp_mono k fun fl e2 k2 => EndOk.pre P (fun _ z => z) k2)
  | false => exact ws σ H' e Fs' D p.env (wp_mono k fun fl e2 k2 => EndOk.pre P (fun _ z => z) k2)
/-- what is never come to -/
def badS : Env → Rs Fl := fun _ => .bad
theorem ds_never : DS C U Rv s badS U2 x := ⟨tNever, fun _ => ps_never, fun _ _ _ _ _ _ h => h.elim⟩
end

/-! ### stores to slots -/
def setF (Fs : Nat → List Addr) (i : Nat) (F : List Addr) : Nat → List Addr := fun j => if j = i then F else Fs j
theorem setF_same {Fs : Nat → List Addr} {i : Nat} {F : List Addr} : setF Fs i F i = F := if_pos rfl
theorem setF_ne {Fs : Nat → List Addr} {i j : Nat} {F : List Addr} (h : j ≠ i) : setF Fs i F j = Fs j := if_neg h
def putS (env : Env) (i : Nat) (d : PyData) : Option Env := if i < env.length then some (env.set i (some d)) else none
section
variable {K : PySem.W.Frag} {H0 : Hp} {M U Un : List Nat} {σ : St} {H : Hp} {env : Env} {Fs : Nat → List Addr} {v : V} {d : PyData} {F : List Addr} {i : Nat}
/-- a clean value is stored -/
theorem EnvR.set (R : EnvR K H0 M U σ H env Fs) (r : Rep K H v d F) (c : Clean U σ F) (hi : i < env.length) (hU : ∀ j ∈ Un, j ∈ U ∧ j ≠ i) : EnvR K H0 M Un (σ.set i (some v)) H (env.set i (some d)) (setF Fs i F) := by
  have hl := R.len
  refine ⟨by rw [List.length_set, List.length_set]; exact hl, fun j d' e => ?_, fun j hj => ?_, fun j h => ?_, R.dom, R.kp⟩
  · by_cases z : i = j
    · subst z
      rw [List.getElem?_set_self hi] at e
      cases e
      exact ⟨v, List.getElem?_set_self (by rw [hl]; exact hi), by rw [setF_same]; exact r⟩
    · rw [List.getElem?_set_ne z] at e
      obtain ⟨w, h1, h2⟩ := R.rep j d' e
      exact ⟨w, by rw [List.getElem?_set_ne z]; exact h1, by rw [setF_ne (Ne.symm z)]; exact h2⟩
  · obtain ⟨hj1, hj2⟩ := hU j hj
    obtain ⟨d', a, G, h1, h2, h3, h4, h5, h6, h7, h8⟩ := R.uni j hj1
    refine ⟨d', a, G, by rw [List.getElem?_set_ne (Ne.symm hj2)]; exact h1, h2, by rw [List.getElem?_set_ne (Ne.symm hj2)]; exact h3, by rw [setF_ne hj2]; exact h4, h5, fun k hk => ?_, h7, h8⟩
    by_cases z : k = i
    · subst z
      rw [setF_same]
      exact c j hj1 a h3
    · rw [setF_ne z]
      exact h6 k hk
  · by_cases z : j = i
    · subst z
      exact absurd (List.getElem?_set_self hi) (h d)
    · rw [setF_ne z]
      exact R.nil j fun d' e => h d' (by rw [List.getElem?_set_ne (Ne.symm z)]; exact e)
/-- a new object is stored: the slot alone holds it -/
theorem EnvR.setNew (R : EnvR K H0 M U σ H env Fs) (r : Rep K H v d F) (c : KdOk H0 U σ H Fs v d F .fr) (hi : i < env.length) (hU : ∀ j ∈ Un, j = i ∨ (j ∈ U ∧ j ≠ i)) : EnvR K H0 M Un (σ.set i (some v)) H (env.set i (some d)) (setF Fs i F) := by
  have cl : Clean U σ F := c.clean R fun i z => nomatch z
  obtain ⟨a, G, rfl, rfl, h3, h4, h5, h6, h7, h8⟩ := c
  have hl := R.len
  refine ⟨(R.set (Un := []) r cl hi fun j h => nomatch h).len, (R.set (Un := []) r cl hi fun j h => nomatch h).rep, fun j hj => ?_, (R.set (Un := []) r cl hi fun j h => nomatch h).nil, R.dom, R.kp⟩
  rcases hU j hj with z | hj'
  · subst z
    refine ⟨d, a, G, List.getElem?_set_self hi, h4, List.getElem?_set_self (by rw [hl]; exact hi), setF_same, h3, fun k hk => ?_, h6, .inl h7⟩
    rw [setF_ne hk]
    exact h5 k
  · exact (R.set (Un := [j]) r cl hi fun k hk => by
      rw [List.mem_singleton.mp hk]
      exact hj').uni j (List.mem_singleton.mpr rfl)
/-- a slot is forgotten -/
theorem EnvR.drop (R : EnvR K H0 M U σ H env Fs) (hU : ∀ j ∈ Un, j ∈ U ∧ j ≠ i) : EnvR K H0 M Un σ H (env.set i none) (setF Fs i []) := by
  refine ⟨by rw [List.length_set]; exact R.len, fun j d' e => ?_, fun j hj => ?_, fun j h => ?_, R.dom, R.kp⟩
  · have z : i ≠ j := fun z => by
      subst z
      by_cases hi : i < env.length
      · rw [List.getElem?_set_self hi] at e
        cases e
      · rw [List.getElem?_eq_none (by rw [List.length_set]; omega)] at e
        cases e
    rw [List.getElem?_set_ne z] at e
    rw [setF_ne (Ne.symm z)]
    exact R.rep j d' e
  · obtain ⟨hj1, hj2⟩ := hU j hj
    obtain ⟨d', a, G, h1, h2, h3, h4, h5, h6, h7, h8⟩ := R.uni j hj1
    refine ⟨d', a, G, by rw [List.getElem?_set_ne (Ne.symm hj2)]; exact h1, h2, h3, by rw [setF_ne hj2]; exact h4, h5, fun k hk => ?_, h7, h8⟩
    by_cases z : k = i
    · subst z
      rw [setF_same]
      exact List.not_mem_nil
    · rw [setF_ne z]
      exact h6 k hk
  · by_cases z : j = i
    · subst z
      exact setF_same
    · rw [setF_ne z]
      exact R.nil j fun d' e => h d' (by rw [List.getElem?_set_ne (Ne.symm z)]; exact e)
end
/-- the last use of a slot of U: what it holds is handed on as new -/
def moveE (i : Nat) : Env → Rs PyData := fun env => match env[i]? with
  | some (some d) => .ok d (env.set i none)
  | _ => .bad
section
variable {C : Ct} {U Rv U1 U2 Un : List Nat} {x : Ex} {e : Expr} {fe : Env → Rs PyData} {pos : Pos} {i : Nat}
theorem de_move {x : Str} {pos : Pos} (hN : ∀ z, (C.X z).N[i]? = some x) (hv : ∀ z, Vis (C.X z).env.scope x) (hi : i ∈ U) (hM : i ∉ C.M) (hR : i ∉ Rv) (hU : ∀ j ∈ U1, j ∈ U ∧ j ≠ i) (hd : (x == ("__debug__" : Str)) = false := by decide) (hcd : (x == ("__classdict__" : Str)) = false := by decide) : DE C U Rv (.Name x pos) (moveE i) U1 .fr := by
  refine ⟨fun j hj => (hU j hj).1, tVar i, fun z => pe_var (hN z) (hv z) hd hcd, fun σ H env Fs Q R h => ?_⟩
  unfold moveE at h
  split at h
  · rename_i d e
    obtain ⟨v, ev, r⟩ := R.rep i d e
    obtain ⟨d', a, G, h1, h2, h3, h4, h5, h6, h7, h8⟩ := R.uni i hi
    rw [e] at h1
    cases h1
    rw [ev] at h3
    cases h3
    have R' := R.drop hU
    refine ⟨_, ev, h _ H _ (Fs i) ⟨R', Keep.refl, fun _ z => z, fun j b m => ?_, r, fun b m => .inl ⟨i, m⟩, ⟨a, G, rfl, h4, h5, h2, fun j m => ?_, h7, h8.resolve_right hM, ?_⟩, fun _ b hb => .inr ⟨i, hi, hR, (by rw [← hb]; exact ev)⟩⟩⟩
    · by_cases z : j = i
      · subst z
        rw [setF_same] at m
        cases m
      · rw [setF_ne z] at m
        exact .inl ⟨j, m⟩
    · by_cases z : j = i
      · subst z
        rw [setF_same] at m
        cases m
      · rw [setF_ne z] at m
        exact h6 j z m
    · have ct := (R.clean_tail hi).weak fun j hj => (hU j hj).1
      rw [h4] at ct
      exact ct
  · exact h.elim
/-! name = value -/
def asgS (i : Nat) (f : Env → Rs PyData) : Env → Rs Fl := fun env => (f env).bind fun d e => (Rs.of (putS e i d) e).bind fun e2 _ => .ok .nx e2
theorem putS_eq {env env' : Env} {d : PyData} (h : putS env i d = some env') : i < env.length ∧ env' = env.set i (some d) := by
  unfold putS at h
  split at h
  · rename_i hi
    cases h
    exact ⟨hi, rfl⟩
  · cases h

/-- what a store leaves -/
theorem EPost.stored {σ : St} {H H1 : Hp} {Fs Fs1 : Nat → List Addr} {env1 : Env} {d : PyData} {v : V} {F : List Addr} {kd : Kd} (p : EPost C U Rv σ H Fs U1 kd d env1 v H1 Fs1 F) (h1 : ∀ i ∈ U1, i ∈ U) (hM : i ∉ C.M) (hR : i ∉ Rv) (hi : i < env1.length) (hb : ∀ j, kd ≠ .br j) (hU : ∀ j ∈ Un, (j = i ∧ kd = .fr) ∨ (j ∈ U1 ∧ j ≠ i)) :
    SPost C U Rv σ H Fs Un (σ.set i (some v)) H1 (env1.set i (some d)) (setF Fs1 i F) := by
  have R : EnvR C.K C.H0 C.M Un (σ.set i (some v)) H1 (env1.set i (some d)) (setF Fs1 i F) := by
    cases kd with
    | cl => exact p.env.set p.rep p.knd hi fun j hj => (hU j hj).resolve_left fun z => nomatch z.2
    | fr => exact p.env.setNew p.rep p.knd hi fun j hj => (hU j hj).imp (fun z => z.1) id
    | br j => exact absurd rfl (hb j)
  refine ⟨R, p.keep, p.dom, fun j a m => ?_, fun j hj hr a e => ?_, fun j h => ?_, fun j hj hr => ?_⟩
  · by_cases z : j = i
    · subst z
      rw [setF_same] at m
      exact p.fgrow a m
    · rw [setF_ne z] at m
      exact p.grow j a m
  · rcases hU j hj with ⟨z, hk⟩ | ⟨h2, z⟩
    · subst z
      by_cases hl : j < σ.length
      · rw [List.getElem?_set_self hl] at e
        cases e
        exact (p.frw hk a rfl).symm
      · rw [List.getElem?_eq_none (by rw [List.length_set]; omega)] at e
        cases e
    · rw [List.getElem?_set_ne (Ne.symm z)] at e
      exact .inl ⟨j, h1 j h2, hr, e⟩
  · refine List.getElem?_set_ne fun z => ?_
    subst z
    exact h.elim hM hR
  · rcases hU j hj with ⟨z, _⟩ | ⟨h2, _⟩
    · subst z
      exact absurd hr hR
    · exact h1 j h2
theorem ds_asg {y : Str} {kd : Kd} {pos' : Pos} (hN : ∀ z, (C.X z).N.Nodup) (hi : ∀ z, (C.X z).N[i]? = some y) (hx : ∀ z, Loc (C.X z).env.scope y) (he : DE C U Rv e fe U1 kd) (hM : i ∉ C.M) (hR : i ∉ Rv) (hb : ∀ j, kd ≠ .br j) (hU : ∀ j ∈ Un, (j = i ∧ kd = .fr) ∨ (j ∈ U1 ∧ j ≠ i))
    (hs : ∀ z, swapsWith e (some (.Name y pos')) pos.line (C.X z).env = pure false := by intro _; rfl) (hf : ∀ z, (C.X z).fn y = true ∨ (C.X z).env.scope.names.lookup y = some .local := by intro _; first | exact .inl rfl | exact .inr rfl) : DS C U Rv (.Assign [.Name y pos'] e pos) (asgS i fe) Un x := by
  obtain ⟨h1, t, hp, hw⟩ := he
  refine ⟨tAsg t (gName i), fun z => ps_set (hN z) (hi z) (hx z) (hp z) (hs z) (hf z), fun σ H env Fs D R h => hw σ H env Fs _ R ?_⟩
  unfold asgS at h
  rw [wp_bind] at h
  refine wp_mono h fun d e1 k v H' Fs' F p => ?_
  rw [wp_bind] at k
  obtain ⟨e2, h2, k⟩ := wp_of k
  obtain ⟨hi', rfl⟩ := putS_eq h2
  exact k _ _ _ (p.stored h1 hM hR hi' hb hU)

/-! ### targets -/
/-- a target stores a clean value's data into some slots (is) -/
def DG (C : Ct) (is : List Nat) (tg : Expr) (g : PyData → Env → Option Env) : Prop :=
  ∃ t : TG, (∀ z, PG (C.X z) tg t) ∧ ∀ (U Rv Un : List Nat) (σ : St) (H : Hp) (env env' : Env) (Fs : Nat → List Addr) (v : V) (d : PyData) (F : List Addr) (Q : St → Hp → Prop), EnvR C.K C.H0 C.M U σ H env Fs → Rep C.K H v d F → Clean U σ F → g d env = some env' →
    (∀ i ∈ is, i ∉ C.M ∧ i ∉ Rv) → (∀ j ∈ Un, j ∈ U ∧ j ∉ is) → (∀ σ' Fs', EnvR C.K C.H0 C.M Un σ' H env' Fs' → (∀ j a, a ∈ Fs' j → (∃ k, a ∈ Fs k) ∨ a ∈ F) → (∀ i, i ∉ is → σ'[i]? = σ[i]?) → σ'.length = σ.length → Q σ' H) → t v σ H Q
def nameG (i : Nat) : PyData → Env → Option Env := fun d env => putS env i d
theorem dg_name {y : Str} {pos : Pos} (hN : ∀ z, (C.X z).N.Nodup) (hi : ∀ z, (C.X z).N[i]? = some y) (hx : ∀ z, Loc (C.X z).env.scope y) (hf : ∀ z, (C.X z).fn y = true ∨ (C.X z).env.scope.names.lookup y = some .local := by intro _; first | exact .inl rfl | exact .inr rfl) : DG C [i] (.Name y pos) (nameG i) := by
  refine ⟨gName i, fun z => pg_name (hN z) (hi z) (hx z) (hf z), fun U Rv Un σ H env env' Fs v d F Q R r c hg hM hU k => ?_⟩
  obtain ⟨hi', rfl⟩ := putS_eq hg
  refine k _ (setF Fs i F) (R.set r c hi' fun j hj => ⟨(hU j hj).1, fun z => (hU j hj).2 (by rw [z]; exact List.mem_singleton.mpr rfl)⟩) (fun j a m => ?_) (fun j hj => List.getElem?_set_ne fun z => hj (by rw [z]; exact List.mem_singleton.mpr rfl)) List.length_set
  by_cases z : j = i
  · subst z
    rw [setF_same] at m
    exact .inr m
  · rw [setF_ne z] at m
    exact .inl ⟨j, m⟩
/-- several targets -/
def DGs (C : Ct) (is : List Nat) (tgs : List Expr) (g : List PyData → Env → Option Env) : Prop :=
  ∃ t : TGs, (∀ z, PGs (C.X z) tgs t) ∧ ∀ (U Rv Un : List Nat) (σ : St) (H : Hp) (env env' : Env) (Fs : Nat → List Addr) (vs : List V) (ds : List PyData) (F : List Addr) (Q : St → Hp → Prop), EnvR C.K C.H0 C.M U σ H env Fs → RepL C.K H vs ds F → Clean U σ F → g ds env = some env' →
    (∀ i ∈ is, i ∉ C.M ∧ i ∉ Rv) → (∀ j ∈ Un, j ∈ U ∧ j ∉ is) → (∀ σ' Fs', EnvR C.K C.H0 C.M Un σ' H env' Fs' → (∀ j a, a ∈ Fs' j → (∃ k, a ∈ Fs k) ∨ a ∈ F) → (∀ i, i ∉ is → σ'[i]? = σ[i]?) → σ'.length = σ.length → Q σ' H) → t vs σ H Q
def nilG : List PyData → Env → Option Env := fun ds env => match ds with
  | [] => some env
  | _ => none
def consG (g : PyData → Env → Option Env) (h : List PyData → Env → Option Env) : List PyData → Env → Option Env := fun ds env => match ds with
  | d :: r => (g d env).bind fun e => h r e
  | [] => none
theorem dgs_nil : DGs C [] [] nilG := by
  refine ⟨gNil, fun z => pgs_nil, fun U Rv Un σ H env env' Fs vs ds F Q R r c hg hM hU k => ?_⟩
  cases r with
  | nil =>
    simp only [nilG] at hg
    cases hg
    exact ⟨rfl, k σ Fs (R.weak fun j hj => (hU j hj).1) (fun j a m => .inl ⟨j, m⟩) (fun _ _ => rfl) rfl⟩
  | cons _ _ => simp [nilG] at hg
theorem dgs_cons {is js : List Nat} {tg : Expr} {tgs : List Expr} {g : PyData → Env → Option Env} {h : List PyData → Env → Option Env} (ha : DG C is tg g) (hb : DGs C js tgs h) (hs : ∀ z, (assignEach (tg :: tgs) (C.X z).env).map (·.2) = assign tg (C.X z).env :: (assignEach tgs (C.X z).env).map (·.2) := by intro _; rfl) : DGs C (is ++ js) (tg :: tgs) (consG g h) := by
  obtain ⟨t, hp, hw⟩ := ha
  obtain ⟨u, gp, gw⟩ := hb
  refine ⟨gCons t u, fun z => pgs_cons (hp z) (gp z) (hs z), fun U Rv Un σ H env env' Fs vs ds F Q R r c hg hM hU k => ?_⟩
  cases r with
  | nil => simp [consG] at hg
  | @cons v vs d ds F1 F2 r1 r2 =>
    simp only [consG] at hg
    cases e1 : g d env with
    | none =>
      rw [e1] at hg
      cases hg
    | some e =>
      rw [e1] at hg
      have hg : h ds e = some env' := hg
      refine ⟨v, vs, rfl, hw U Rv (U.filter fun j => !is.contains j) σ H env e Fs v d F1 _ R r1 (c.sub fun a m => List.mem_append_left _ m) e1 (fun i hi => hM i (List.mem_append_left _ hi)) (fun j hj => ?_) fun σ1 Fs1 R1 g1 f1 l1 => ?_⟩
      · have := List.mem_filter.mp hj
        exact ⟨this.1, by simpa using this.2⟩
      · refine gw _ Rv Un σ1 H e env' Fs1 vs ds F2 Q R1 r2 (fun i hi a ea m => ?_) hg (fun i hi => hM i (List.mem_append_right _ hi)) (fun j hj => ?_) fun σ2 Fs2 R2 g2 f2 l2 => k σ2 Fs2 R2 (fun j a m => ?_) (fun i hi => ?_) (l2.trans l1)
        · have := List.mem_filter.mp hi
          rw [f1 i (by simpa using this.2)] at ea
          exact c i this.1 a ea (List.mem_append_right _ m)
        · have := hU j hj
          refine ⟨List.mem_filter.mpr ⟨this.1, ?_⟩, fun z => this.2 (List.mem_append_right _ z)⟩
          have z : j ∉ is := fun z => this.2 (List.mem_append_left _ z)
          simpa using z
        · rcases g2 j a m with ⟨l, hl⟩ | hl
          · rcases g1 l a hl with q | q
            · exact .inl q
            · exact .inr (List.mem_append_left _ q)
          · exact .inr (List.mem_append_right _ hl)
        · rw [List.mem_append, not_or] at hi
          rw [f2 i hi.2, f1 i hi.1]
def tupG (h : List PyData → Env → Option Env) : PyData → Env → Option Env := fun d env => match d with
  | .tuple ds => h ds env
  | _ => none
theorem dg_tup {is : List Nat} {tgs : List Expr} {k : Nat} {h : List PyData → Env → Option Env} {pos : Pos} (n : Nat) (hc : ∀ z, (C.X z).calm = true) (hb : DGs C is tgs h) (hlen : ∀ ds env env', h ds env = some env' → ds.length = n) (hn : ∀ z, (assignEach tgs (C.X z).env).length = n := by intro _; rfl) (hst : ∀ z, (assignEach tgs (C.X z).env).findIdx? (·.1) = none := by intro _; rfl) : DG C is (.Tuple tgs k pos) (tupG h) := by
  obtain ⟨u, gp, gw⟩ := hb
  refine ⟨gTup C.K n u, fun z => ?_, fun U Rv Un σ H env env' Fs v d F Q R r c hg hM hU k => ?_⟩
  · have := pg_tup (k := k) (pos := pos) (n := n) (hc z) (gp z) (hn z) (hst z)
    rw [C.hK z] at this
    exact this
  · cases d with
    | tuple ds =>
      simp only [tupG] at hg
      obtain ⟨a, vs, rfl, h1, l⟩ := r.sqT
      exact ⟨a, vs, rfl, h1, l.length.trans (hlen _ _ _ hg), gw U Rv Un σ H env env' Fs vs ds F Q R l c hg hM hU k⟩
    | _ => simp [tupG] at hg
/-- target = value, a clean one -/
def asgG (g : PyData → Env → Option Env) (f : Env → Rs PyData) : Env → Rs Fl := fun env => (f env).bind fun d e => (Rs.of (g d e) e).bind fun e2 _ => .ok .nx e2
theorem ds_asgG {is : List Nat} {tg : Expr} {g : PyData → Env → Option Env} (he : DE C U Rv e fe U1 .cl) (hg : DG C is tg g) (hM : ∀ i ∈ is, i ∉ C.M ∧ i ∉ Rv) (hU : ∀ j ∈ Un, j ∈ U1 ∧ j ∉ is)
    (hs : ∀ z, swapsWithSole [tg] e pos.line (C.X z).env = pure false := by intro _; rfl) (hw' : ∀ z, swappedStores [tg] e (C.X z).env = pure none := by intro _; rfl) (h1' : ∀ z, (assignEach [tg] (C.X z).env).map (·.2) = [assign tg (C.X z).env] := by intro _; rfl) : DS C U Rv (.Assign [tg] e pos) (asgG g fe) Un x := by
  obtain ⟨h1, t, hp, hw⟩ := he
  obtain ⟨u, gp, gw⟩ := hg
  refine ⟨tAsg t u, fun z => ps_asg (hp z) (gp z) (hs z) (hw' z) (h1' z), fun σ H env Fs D R h => hw σ H env Fs _ R ?_⟩
  unfold asgG at h
  rw [wp_bind] at h
  refine wp_mono h fun d e1 k v H' Fs' F p => ?_
  rw [wp_bind] at k
  obtain ⟨e2, h2, k⟩ := wp_of k
  refine gw U1 Rv Un σ H' e1 e2 Fs' v d F _ p.env p.rep p.knd h2 hM hU fun σ' Fs2 R2 g2 f2 _ => k σ' H' Fs2 ⟨R2, p.keep, p.dom, fun j a m => ?_, fun i hi hr a ea => ?_, fun i hi => f2 i fun z => ?_, fun i hi _ => h1 i (hU i hi).1⟩
  · rcases g2 j a m with ⟨l, hl⟩ | hl
    · exact p.grow l a hl
    · exact p.fgrow a hl
  · rw [f2 i (hU i hi).2] at ea
    exact .inl ⟨i, h1 i (hU i hi).1, hr, ea⟩
  · exact hi.elim (hM i z).1 (hM i z).2
end
end DV

set_option Elab.async false
set_option linter.all false
set_option maxRecDepth 100000
set_option maxHeartbeats 2000000
namespace DV
open PySem L2

/-! ### what is walked -/
/-- the walk J gives these items, as long as hold is true of the heap; Fh: what it rests on, Fi: what its items rest on -/
structure ItOk (K : PySem.W.Frag) (J : It) (items : List PyData) (hold : Hp → Prop) (Fh Fi : List Addr) : Prop where
  go : ∀ (i : Nat) (H : Hp), hold H → i < items.length → J.go i H
  stop : ∀ (i : Nat) (H : Hp), hold H → i = items.length → J.stop i H
  yld : ∀ (i : Nat) (H : Hp) (x : V) (H' : Hp) (d : PyData), hold H → J.yld i H x H' → items[i]? = some d → Same H H' ∧ ∃ F, Rep K H' x d F ∧ ∀ a ∈ F, a ∈ Fi
  keep : ∀ (H H' : Hp) (w : Addr → Prop), hold H → Keep w H H' → (∀ a, w a → MutA H a) → (∀ a ∈ Fh, ¬ w a) → hold H'
def DIp (C : Ct) (Pre : St → Hp → Prop) (U Rv : List Nat) (tg e : Expr) (f : Env → Rs (List PyData)) (U' Rb : List Nat) : Prop :=
  (∀ i ∈ U', i ∈ U) ∧ ∃ w : TI, (∀ z, PI (C.X z) tg e w) ∧ ∀ (σ : St) (H : Hp) (env : Env) (Fs : Nat → List Addr) (Q : It → Hp → Prop), EnvR C.K C.H0 C.M U σ H env Fs → Pre σ H →
    (f env).wp (fun items env' => ∀ J H' Fs' hold Fh Fi, TPost C U Rv σ H Fs U' env' H' Fs' → ItOk C.K J items hold Fh Fi → hold H' → (∀ i ∈ U', i ∉ Rb → ∀ a, σ[i]? = some (some (.ref a)) → a ∉ Fh) → Clean U' σ Fi → (∀ a ∈ Fi, (∃ k, a ∈ Fs k) ∨ H a = none) → (∀ a, a ∈ Fi ∨ a ∈ Fh → H' a ≠ none) → Q J H') (EC C) → w σ H Q
abbrev DI (C : Ct) (U Rv : List Nat) (tg e : Expr) (f : Env → Rs (List PyData)) (U' Rb : List Nat) : Prop := DIp C (fun _ _ => True) U Rv tg e f U' Rb
theorem pi_or {X : Cx} {tg e : Expr} {w w' : TI} (h : PI X tg e w) (h' : PI X tg e w') : PI X tg e (fun σ H Q => w σ H Q ∨ w' σ H Q) :=
  ⟨fun pins s σ H R I q => q.elim (h.run pins s σ H R I) (h'.run pins s σ H R I)⟩
def seqOf : PyData → Option (List PyData)
  | .list xs => some xs
  | .tuple xs => some xs
  | _ => none
def itemsE (f : Env → Rs PyData) : Env → Rs (List PyData) := fun env => (f env).bind fun d e => Rs.of (seqOf d) e
def rb : Kd → List Nat
  | .br i => [i]
  | _ => []
section
variable {C : Ct} {U Rv U1 : List Nat} {tg e : Expr} {f : Env → Rs PyData} {kd : Kd}
/-- a list or a tuple -/
theorem di_seq (he : DE C U Rv e f U1 kd) : DI C U Rv tg e (itemsE f) U1 (rb kd) := by
  obtain ⟨h1, t, hp, hs⟩ := he
  refine ⟨h1, fun σ H Q => iList C.K t σ H Q ∨ iTup C.K t σ H Q, fun z => ?_, fun σ H env Fs Q R _ hw => ?_⟩
  · have a := pi_list (tg := tg) (hp z)
    have b := pi_tup (tg := tg) (hp z)
    rw [C.hK z] at a b
    exact pi_or a b
  · unfold itemsE at hw
    rw [wp_bind] at hw
    have key : ∀ (d : PyData) (e1 : Env) (xs : List PyData), seqOf d = some xs → ∀ v H' Fs' F, EPost C U Rv σ H Fs U1 kd d e1 v H' Fs' F → ((Rs.of (seqOf d) e1).wp (fun items env' => ∀ J H' Fs' hold Fh Fi, TPost C U Rv σ H Fs U1 env' H' Fs' → ItOk C.K J items hold Fh Fi → hold H' → (∀ i ∈ U1, i ∉ rb kd → ∀ a, σ[i]? = some (some (.ref a)) → a ∉ Fh) → Clean U1 σ Fi → (∀ a ∈ Fi, (∃ k, a ∈ Fs k) ∨ H a = none) → (∀ a, a ∈ Fi ∨ a ∈ Fh → H' a ≠ none) → Q J H') (EC C)) →
        ∀ J, ItOk C.K J xs (fun H => Rep C.K H v d F) F (inner d F) → Q J H' := by
      intro d e1 xs hx v H' Fs' F p k J ok
      rw [hx] at k
      refine k J H' Fs' _ F (inner d F) p.t ok p.rep (fun i hi hb a ea m => ?_) (p.knd.inn p.env) (fun a m => p.fgrow a (inner_sub m)) fun a m => p.rep.trk a (m.elim inner_sub id)
      cases kd with
      | cl => exact p.knd i hi a ea m
      | fr => exact p.knd.clean p.env (fun i z => nomatch z) i hi a ea m
      | br j =>
        obtain ⟨k1, k2, k3, k4⟩ := p.knd
        by_cases z : a ∈ inner d F
        · exact p.knd.inn p.env i hi a ea z
        · have ev := p.rep.own m z
          rw [ev] at k2
          obtain ⟨_, G, _, _, e2, _, n, _, _⟩ := p.env.root hi ea
          obtain ⟨_, G', _, _, e2', _, n', _, _⟩ := p.env.root k1 k2
          exact n j (fun z => hb (by rw [z]; exact List.mem_singleton.mpr rfl)) (by rw [e2']; exact List.mem_cons_self)
    cases hf : f env with
    | ok d e1 =>
      rw [hf] at hw
      have hs' := fun Q' h => hs σ H env Fs Q' R (by rw [hf]; exact h)
      cases d with
      | list xs =>
        refine .inl (hs' _ fun v H' Fs' F p => ?_)
        obtain ⟨a, vs, G, rfl, h2, l, s⟩ := p.rep.sqL
        refine ⟨a, rfl, ⟨vs, h2⟩, key _ e1 xs rfl _ _ _ _ p hw _ ⟨fun i H1 hr hi => ?_, fun i H1 hr hi => ?_, fun i H1 x H2 d hr hy hd => ?_, fun H1 H2 w hr hk hw' hn => hr.keep hk hw' hn⟩⟩
        · obtain ⟨b, us, G', e, q, l', _⟩ := hr.sqL
          cases e
          rw [← l'.length] at hi
          exact ⟨us, us[i], q, List.getElem?_eq_getElem hi⟩
        · obtain ⟨b, us, G', e, q, l', _⟩ := hr.sqL
          cases e
          exact ⟨us, q, by rw [l'.length, hi]; exact Nat.le_refl _⟩
        · obtain ⟨e, y⟩ := hy
          subst e
          obtain ⟨b, us, G', e, q, l', s'⟩ := hr.sqL
          cases e
          obtain ⟨G2, r, m⟩ := l'.at (y us q) hd
          exact ⟨Same.refl _, G2, r, fun a ha => s' a (m a ha)⟩
      | tuple xs =>
        refine .inr (hs' _ fun v H' Fs' F p => ?_)
        obtain ⟨a, vs, rfl, h2, l⟩ := p.rep.sqT
        refine ⟨a, rfl, ⟨vs, h2⟩, key _ e1 xs rfl _ _ _ _ p hw _ ⟨fun i H1 hr hi => ?_, fun i H1 hr hi => ?_, fun i H1 x H2 d hr hy hd => ?_, fun H1 H2 w hr hk hw' hn => hr.keep hk hw' hn⟩⟩
        · obtain ⟨b, us, e, q, l'⟩ := hr.sqT
          cases e
          rw [← l'.length] at hi
          exact ⟨us, us[i], q, List.getElem?_eq_getElem hi⟩
        · obtain ⟨b, us, e, q, l'⟩ := hr.sqT
          cases e
          exact ⟨us, q, by rw [l'.length, hi]; exact Nat.le_refl _⟩
        · obtain ⟨e, y⟩ := hy
          subst e
          obtain ⟨b, us, e, q, l'⟩ := hr.sqT
          cases e
          obtain ⟨G2, r, m⟩ := l'.at (y us q) hd
          exact ⟨Same.refl _, G2, r, fun a ha => by rw [inner_tup]; exact m a ha⟩
      | _ => exact (show False from hw).elim
    | exc c v e1 =>
      rw [hf] at hw
      exact .inl (hs σ H env Fs _ R (by rw [hf]; exact hw))
    | bad =>
      rw [hf] at hw
      exact (show False from hw).elim
/-! ranges -/
def rangeL (lo hi : Int) : List PyData := (List.range (hi - lo).toNat).map fun (k : Nat) => .int (lo + (k : Int))
def rng1 (f : Env → Rs PyData) : Env → Rs (List PyData) := fun env => (f env).bind fun d e => match d with
  | .int j => if -(2 ^ 62) ≤ j ∧ j < 2 ^ 62 then .ok (rangeL 0 j) e else .bad
  | _ => .bad
def rng2 (f g : Env → Rs PyData) : Env → Rs (List PyData) := fun env => (f env).bind fun d e => (g e).bind fun d2 e2 => match d, d2 with
  | .int i, .int j => if (-(2 ^ 62) ≤ i ∧ i < 2 ^ 62) ∧ -(2 ^ 62) ≤ j ∧ j < 2 ^ 62 then .ok (rangeL i j) e2 else .bad
  | _, _ => .bad
theorem rangeL_len (lo hi : Int) : (rangeL lo hi).length = (hi - lo).toNat := by
  unfold rangeL
  rw [List.length_map, List.length_range]
theorem it_range {K : PySem.W.Frag} (lo hi : Int) : ItOk K (Itr lo (hi - lo).toNat) (rangeL lo hi) (fun _ => True) [] [] := by
  refine ⟨fun i H _ h => by rw [rangeL_len] at h; exact h, fun i H _ h => by rw [rangeL_len] at h; exact Nat.le_of_eq h.symm, fun i H x H' d _ hy hd => ?_, fun _ _ _ _ _ _ _ => trivial⟩
  obtain ⟨rfl, rfl⟩ := hy
  unfold rangeL at hd
  rw [List.getElem?_map, Option.map_eq_some_iff] at hd
  obtain ⟨k, hk, rfl⟩ := hd
  have hl := (List.getElem?_eq_some_iff.mp hk)
  obtain ⟨h1, h2⟩ := hl
  rw [List.getElem_range] at h2
  subst h2
  exact ⟨Same.refl _, [], .int _, fun _ m => nomatch m⟩
theorem di_range1 {a : Expr} {p pos : Pos} (hg : ∀ z, Gl (C.X z) "range") (hm : ∀ z, (C.X z).mg "range" = none) (ha : DE C U Rv a f U1 .cl) (hst : ∀ z, starEach [a] (C.X z).env = (false, eval a (C.X z).env) :: starEach [] (C.X z).env := by intro _; rfl) (hs' : ∀ z, starEach [a] (C.X z).env = [(false, eval a (C.X z).env)] := by intro _; rfl) : DI C U Rv tg (.Call (.Name "range" p) [a] [] pos) (rng1 f) U1 [] := by
  obtain ⟨h1, t, hp, hs⟩ := ha
  refine ⟨h1, iRng1 (tCons t tNil), fun z => pi_range1 (hg z) (hm z) (pa_cons (hp z) pa_nil (hst z)) (hs' z), fun σ H env Fs Q R _ hw => hs σ H env Fs _ R ?_⟩
  unfold rng1 at hw
  rw [wp_bind] at hw
  refine wp_mono hw fun d e k v H' Fs' F p => ?_
  have r := p.rep
  cases d with
  | int j =>
    cases r
    simp only at k
    split at k
    · rename_i hj
      refine ⟨j, rfl, hj.1, hj.2, ?_⟩
      have := k (Itr 0 (j - 0).toNat) H' Fs' _ [] [] p.t (it_range 0 j) trivial (fun _ _ _ _ _ m => nomatch m) Clean.nil (fun _ m => nomatch m) fun _ m => m.elim (fun z => nomatch z) fun z => nomatch z
      rw [Int.sub_zero] at this
      exact this
    · exact k.elim
  | _ => exact (show False from k).elim
theorem di_range2 {a b : Expr} {p pos : Pos} {g : Env → Rs PyData} {U2 : List Nat} (hg : ∀ z, Gl (C.X z) "range") (hm : ∀ z, (C.X z).mg "range" = none) (ha : DE C U Rv a f U1 .cl) (hb : DE C U1 Rv b g U2 .cl)
    (hst : ∀ z, starEach [a, b] (C.X z).env = (false, eval a (C.X z).env) :: starEach [b] (C.X z).env := by intro _; rfl) (hst2 : ∀ z, starEach [b] (C.X z).env = (false, eval b (C.X z).env) :: starEach [] (C.X z).env := by intro _; rfl)
    (hs' : ∀ z, starEach [a, b] (C.X z).env = [(false, eval a (C.X z).env), (false, eval b (C.X z).env)] := by intro _; rfl) (hs2' : ∀ z, starEach [b] (C.X z).env = [(false, eval b (C.X z).env)] := by intro _; rfl) : DI C U Rv tg (.Call (.Name "range" p) [a, b] [] pos) (rng2 f g) U2 [] := by
  obtain ⟨h1, t, hp, hs⟩ := ha
  obtain ⟨g1, u, gp, gs⟩ := hb
  refine ⟨fun i hi => h1 i (g1 i hi), iRng2 (tCons t (tCons u tNil)), fun z => pi_range2 (hg z) (hm z) (pa_cons (hp z) (pa_cons (gp z) pa_nil (hst2 z)) (hst z)) (hs' z) (hs2' z), fun σ H env Fs Q R _ hw => hs σ H env Fs _ R ?_⟩
  unfold rng2 at hw
  rw [wp_bind] at hw
  refine wp_mono hw fun d e k v H' Fs' F p => gs σ H' e Fs' _ p.env ?_
  rw [wp_bind] at k
  refine wp_mono k fun d2 e2 k w H2 Fs2 F2 q => ?_
  have r := p.rep
  have r2 := q.rep
  cases d with
  | int i =>
    cases d2 with
    | int j =>
      cases r
      cases r2
      simp only at k
      split at k
      · rename_i hj
        refine ⟨i, j, rfl, ⟨hj.1.1, hj.1.2, hj.2.1, hj.2.2⟩, ?_⟩
        exact k _ H2 Fs2 _ [] [] (p.t.trans q.t h1 fun _ z => z) (it_range i j) trivial (fun _ _ _ _ _ m => nomatch m) Clean.nil (fun _ m => nomatch m) fun _ m => m.elim (fun z => nomatch z) fun z => nomatch z
      · exact k.elim
    | _ => exact (show False from k).elim
  | _ => exact (show False from k).elim
end

/-! ### for -/
def loopS (tg : PyData → Env → Option Env) (fb : Env → Rs Fl) : List PyData → Env → Rs Fl
  | [], e => .ok .nx e
  | d :: ds, e => match tg d e with
    | some e1 => (fb e1).bind fun fl e2 => match fl with
      | .nx => loopS tg fb ds e2
      | .ct => loopS tg fb ds e2
      | .bk => .ok .nx e2
      | .rt d => .ok (.rt d) e2
    | none => .bad
def forS (fi : Env → Rs (List PyData)) (tg : PyData → Env → Option Env) (fb : Env → Rs Fl) : Env → Rs Fl := fun env => (fi env).bind fun items e => loopS tg fb items e
section
variable {C : Ct} {U Rv Rv2 U1 UL Rb is : List Nat} {tg it : Expr} {body : List Stmt} {fi : Env → Rs (List PyData)} {g : PyData → Env → Option Env} {fb : Env → Rs Fl} {x : Ex} {pos : Pos}
/-- a statement under a premise on slots and heap -/
def DSp (C : Ct) (Pre : St → Hp → Prop) (U Rv : List Nat) (s : Stmt) (f : Env → Rs Fl) (Un : List Nat) (x : Ex) : Prop :=
  ∃ t : TS, (∀ z, PS (C.X z) s t) ∧ ∀ (σ : St) (H : Hp) (env : Env) (Fs : Nat → List Addr) (D : Ends), EnvR C.K C.H0 C.M U σ H env Fs → Pre σ H → (f env).wp (EndOk C U Rv σ H Fs Un x D) (EC C) → t D σ H
theorem ds_forP {Pre : St → Hp → Prop} (hpo : ∀ z, PassesOwn (model (C.X z).prog (C.X z).w) (C.X z).A (C.X z).env (C.X z).xe) (hcm : ∀ z, (C.X z).calm = true) (hi : DIp C Pre U Rv tg it fi U1 Rb) (hg : DG C is tg g) (hb : DSs C UL Rv2 body fb UL { x with b := UL, c := UL })
    (hL : ∀ i ∈ UL, i ∈ U1 ∧ i ∉ is) (hR : ∀ i ∈ Rv, i ∈ Rv2) (hRb : ∀ i ∈ Rb, i ∈ Rv2) (hM : ∀ i ∈ is, i ∉ C.M ∧ i ∉ Rv2) (hs : ∀ z y, foldedSetIterable it (C.X z).env y = pure y := by intro _ _; rfl) : DSp C Pre U Rv (.For tg it body [] pos) (forS fi g fb) UL x := by
  obtain ⟨h1, w, wp', ws⟩ := hi
  obtain ⟨tg', gp, gs⟩ := hg
  obtain ⟨tb, bp, bs⟩ := hb
  refine ⟨tFor w tg' tb, fun z => ps_for (hpo z) (hcm z) (wp' z) (gp z) (bp z) (hs z), fun σ H env Fs D R hpre h => ws σ H env Fs _ R hpre ?_⟩
  unfold forS at h
  rw [wp_bind] at h
  refine wp_mono h fun items e0 k J H0 Fs0 hold Fh Fi p ok hh0 hFh hFi gFi tFi => ?_
  have P0 : SPost C U Rv σ H Fs UL σ H0 e0 Fs0 := (SPost.ofT (env := env) p h1).weak fun i hi => (hL i hi).1
  have R0 : EnvR C.K C.H0 C.M UL σ H0 e0 Fs0 := P0.env
  -- from the loop's start, the items' own footprint counted in
  have baseOf : ∀ {σ' : St} {H' : Hp} {e' : Env} {Fs' : Nat → List Addr}, SPost C UL Rv2 σ H0 (fun j => Fs0 j ++ Fi) UL σ' H' e' Fs' → SPost C U Rv σ H Fs UL σ' H' e' Fs' := fun {σ' H' e' Fs'} S => by
    have tr : ∀ a, Wr UL Rv2 σ a → Wr U Rv σ a := fun a ⟨i, q1, q2, q3⟩ => ⟨i, h1 i (hL i q1).1, fun z => q2 (hR i z), q3⟩
    refine ⟨S.env, P0.keep.trans S.keep fun a _ z => tr a z, fun a e => P0.dom a (S.dom a e), fun j a m => ?_, fun i hi hr a ea => ?_, fun i hi => S.fix i (hi.imp id (hR i)), fun i hi hr => h1 i (hL i hi).1⟩
    · rcases S.grow j a m with ⟨l, hl⟩ | z
      · rcases List.mem_append.mp hl with hl | hl
        · exact P0.grow l a hl
        · exact gFi a hl
      · exact .inr (P0.dom a z)
    · by_cases hr2 : i ∈ Rv2
      · rw [S.fix i (.inr hr2)] at ea
        exact .inl ⟨i, h1 i (hL i hi).1, hr, ea⟩
      · rcases S.root i hi hr2 a ea with z | z
        · exact .inl (tr a z)
        · exact .inr (P0.dom a z)
  have noW : ∀ a ∈ Fh, ¬ Wr UL Rv2 σ a := fun a ha ⟨j, q1, q2, q3⟩ => hFh j (hL j q1).1 (fun z => q2 (hRb j z)) a q3 ha
  have holds : ∀ {σ' : St} {H' : Hp} {e' : Env} {Fs' : Nat → List Addr}, SPost C UL Rv2 σ H0 (fun j => Fs0 j ++ Fi) UL σ' H' e' Fs' → hold H' := fun S => ok.keep _ _ _ hh0 S.keep (fun a z => R0.wr z) noW
  have S0 : SPost C UL Rv2 σ H0 (fun j => Fs0 j ++ Fi) UL σ H0 e0 Fs0 := ⟨R0, Keep.refl, fun _ e => e, fun j a m => .inl ⟨j, List.mem_append_left _ m⟩, fun i hi hr a e => .inl ⟨i, hi, hr, e⟩, fun _ _ => rfl, fun _ h _ => h⟩
  refine ⟨fun i m σ' H' => m = items.length - i ∧ i ≤ items.length ∧ ∃ e' Fs', SPost C UL Rv2 σ H0 (fun j => Fs0 j ++ Fi) UL σ' H' e' Fs' ∧ (loopS g fb (items.drop i) e').wp (EndOk C U Rv σ H Fs UL x D) (EC C), ⟨items.length, rfl, Nat.zero_le _, e0, Fs0, S0, k⟩, ?_⟩
  rintro i m σ' H' ⟨rfl, hi, e', Fs', S, k'⟩
  have hh := holds S
  by_cases hlt : i < items.length
  · have hd : items[i]? = some items[i] := List.getElem?_eq_getElem hlt
    have hdrop : items.drop i = items[i] :: items.drop (i + 1) := List.drop_eq_getElem_cons hlt
    rw [hdrop] at k'
    unfold loopS at k'
    refine .inr ⟨ok.go i H' hh hlt, fun σ2 H2 => ∃ e2 Fs2, SPost C UL Rv2 σ H0 (fun j => Fs0 j ++ Fi) UL σ2 H2 e2 Fs2 ∧ (loopS g fb (items.drop (i + 1)) e2).wp (EndOk C U Rv σ H Fs UL x D) (EC C), fun σ2 H2 ⟨e2, Fs2, q2, q3⟩ => ⟨items.length - (i + 1), by omega, rfl, hlt, e2, Fs2, q2, q3⟩, fun y H1 hy => ?_⟩
    obtain ⟨sm, F, rF, sF⟩ := ok.yld i H' y H1 _ hh hy hd
    cases hg1 : g items[i] e' with
    | none =>
      rw [hg1] at k'
      exact (show False from k').elim
    | some e1 =>
      rw [hg1] at k'
      simp only at k'
      rw [wp_bind] at k'
      have R1 := S.env.same sm
      have cF : Clean UL σ' F := fun j hj a ea m => by
        by_cases hr : j ∈ Rv2
        · rw [S.fix j (.inr hr)] at ea
          exact hFi j (hL j hj).1 a ea (sF a m)
        · rcases S.root j hj hr a ea with ⟨l, q1, q2, q3⟩ | z
          · exact hFi l (hL l q1).1 a q3 (sF a m)
          · exact tFi a (.inl (sF a m)) z
      refine gs UL Rv2 UL σ' H1 e' e1 Fs' y items[i] F _ R1 rF cF hg1 hM (fun j hj => ⟨hj, (hL j hj).2⟩) fun σ2 Fs2 R2 g2 f2 _ => ?_
      have S2 : SPost C UL Rv2 σ H0 (fun j => Fs0 j ++ Fi) UL σ2 H1 e1 Fs2 := by
        refine ⟨R2, S.keep.trans (Keep.same (w := fun _ => False) sm) (fun _ _ z => z.elim), fun a e => S.dom a (sm.free e), fun j a m => ?_, fun j hj hr a ea => ?_, fun j hj => ?_, fun j hj _ => hj⟩
        · rcases g2 j a m with ⟨l, hl⟩ | hl
          · exact S.grow l a hl
          · exact .inl ⟨0, List.mem_append_right _ (sF a hl)⟩
        · rw [f2 j (hL j hj).2] at ea
          exact S.root j hj hr a ea
        · rw [f2 j fun z => hj.elim (hM j z).1 (hM j z).2]
          exact S.fix j hj
      have B2 := baseOf S2
      refine bs σ2 H1 e1 Fs2 _ R2 (wp_mono k' fun fl e2 k2 => ?_)
      cases fl with
      | nx => exact fun σ3 H3 Fs3 q => ⟨e2, Fs3, S2.trans q (fun _ z => z), k2⟩
      | ct => exact fun σ3 H3 Fs3 q => ⟨e2, Fs3, S2.trans q (fun _ z => z), k2⟩
      | bk => exact fun σ3 H3 Fs3 q => (show EndOk C U Rv σ H Fs UL x D .nx e2 from k2) σ3 H3 Fs3 (baseOf (S2.trans q fun _ z => z))
      | rt d => exact fun v σ3 H3 Fs3 F3 q => (show EndOk C U Rv σ H Fs UL x D (.rt d) e2 from k2) v σ3 H3 Fs3 F3 (RPost.pre B2 q hR)
  · have e : i = items.length := by omega
    subst e
    rw [List.drop_length] at k'
    exact .inl ⟨ok.stop _ H' hh rfl, (show EndOk C U Rv σ H Fs UL x D .nx e' from k') σ' H' Fs' (baseOf S)⟩
theorem ds_for (hpo : ∀ z, PassesOwn (model (C.X z).prog (C.X z).w) (C.X z).A (C.X z).env (C.X z).xe) (hcm : ∀ z, (C.X z).calm = true) (hi : DI C U Rv tg it fi U1 Rb) (hg : DG C is tg g) (hb : DSs C UL Rv2 body fb UL { x with b := UL, c := UL })
    (hL : ∀ i ∈ UL, i ∈ U1 ∧ i ∉ is) (hR : ∀ i ∈ Rv, i ∈ Rv2) (hRb : ∀ i ∈ Rb, i ∈ Rv2) (hM : ∀ i ∈ is, i ∉ C.M ∧ i ∉ Rv2) (hs : ∀ z y, foldedSetIterable it (C.X z).env y = pure y := by intro _ _; rfl) : DS C U Rv (.For tg it body [] pos) (forS fi g fb) UL x := by
  obtain ⟨t, tp, ts⟩ := ds_forP hpo hcm hi hg hb hL hR hRb hM hs
  exact ⟨t, tp, fun σ H env Fs D R h => ts σ H env Fs D R trivial h⟩

/-! ### while -/
def whileS (c : Env → Rs Bool) (fb : Env → Rs Fl) : Nat → Env → Rs Fl
  | 0, _ => .bad
  | n + 1, e => (c e).bind fun b e1 => if b = true then (fb e1).bind fun fl e2 => match fl with
      | .nx => whileS c fb n e2
      | .ct => whileS c fb n e2
      | .bk => .ok .nx e2
      | .rt d => .ok (.rt d) e2
    else .ok .nx e1
theorem ds_while {c : Expr} {fc : Env → Rs Bool} (n : Nat) (hpo : ∀ z, PassesOwn (model (C.X z).prog (C.X z).w) (C.X z).A (C.X z).env (C.X z).xe) (hc : DT C UL Rv c fc UL) (hb : DSs C UL Rv body fb UL { x with b := UL, c := UL }) (hL : ∀ i ∈ UL, i ∈ U) : DS C U Rv (.While c body [] pos) (whileS fc fb n) UL x := by
  obtain ⟨h1, t, tp, ts⟩ := hc
  obtain ⟨tb, bp, bs⟩ := hb
  refine ⟨tWhile t tb, fun z => ps_while (hpo z) (tp z) (bp z), fun σ H env Fs D R h => ?_⟩
  have S0 : SPost C U Rv σ H Fs UL σ H env Fs := (SPost.refl R).weak hL
  refine ⟨fun m σ' H' => ∃ e' Fs', SPost C U Rv σ H Fs UL σ' H' e' Fs' ∧ (whileS fc fb m e').wp (EndOk C U Rv σ H Fs UL x D) (EC C), ⟨n, env, Fs, S0, h⟩, ?_⟩
  rintro m σ' H' ⟨e', Fs', S, k⟩
  cases m with
  | zero => exact (show False from k).elim
  | succ m =>
    unfold whileS at k
    rw [wp_bind] at k
    refine ts σ' H' e' Fs' _ S.env (wp_mono k fun b e1 k H1 Fs1 p => ?_)
    have S1 := S.trans (SPost.ofT (env := e') p h1) fun _ z => z
    cases b with
    | true =>
      simp only [if_true] at k ⊢
      rw [wp_bind] at k
      refine ⟨fun σ2 H2 => ∃ e2 Fs2, SPost C U Rv σ H Fs UL σ2 H2 e2 Fs2 ∧ (whileS fc fb m e2).wp (EndOk C U Rv σ H Fs UL x D) (EC C), fun σ2 H2 ⟨e2, Fs2, q1, q2⟩ => ⟨m, Nat.lt_succ_self m, e2, Fs2, q1, q2⟩, ?_⟩
      refine bs σ' H1 e1 Fs1 _ p.env (wp_mono k fun fl e2 k2 => ?_)
      cases fl with
      | nx => exact fun σ3 H3 Fs3 q => ⟨e2, Fs3, S1.trans q (fun _ z => z), k2⟩
      | ct => exact fun σ3 H3 Fs3 q => ⟨e2, Fs3, S1.trans q (fun _ z => z), k2⟩
      | bk => exact fun σ3 H3 Fs3 q => (show EndOk C U Rv σ H Fs UL x D .nx e2 from k2) σ3 H3 Fs3 (S1.trans q fun _ z => z)
      | rt d => exact fun v σ3 H3 Fs3 F3 q => (show EndOk C U Rv σ H Fs UL x D (.rt d) e2 from k2) v σ3 H3 Fs3 F3 (RPost.pre S1 q fun _ z => z)
    | false =>
      simp only [Bool.false_eq_true, if_false] at k ⊢
      exact (show EndOk C U Rv σ H Fs UL x D .nx e1 from k) σ' H1 Fs1 S1
end
end DV

set_option Elab.async false
set_option linter.all false
set_option maxRecDepth 100000
set_option maxHeartbeats 2000000
namespace DV
open PySem L2

/-! ### list comprehensions -/
def wipeE (e : Env) : List Nat → Env
  | [] => e
  | i :: r => (wipeE e r).set i none
def wipeF (Fs : Nat → List Addr) : List Nat → Nat → List Addr
  | [] => Fs
  | i :: r => setF (wipeF Fs r) i []
/-- an error within is not followed -/
def Rs.nx {α : Type} (m : Rs α) : Rs α := match m with
  | .exc _ _ _ => .bad
  | o => o
theorem wp_nx {α : Type} {m : Rs α} {Q : α → Env → Prop} {W W' : Str → PyData → Env → Prop} (h : m.nx.wp Q W) : m.wp Q W' := by
  cases m with
  | ok a e => exact h
  | exc c v e => exact (show False from h).elim
  | bad => exact h
def compL (own : List Nat) (g : PyData → Env → Option Env) (fc : Env → Rs Bool) (fe : Env → Rs PyData) : List PyData → Env → Rs (List PyData)
  | [], e => .ok [] e
  | d :: ds, e => match g d (wipeE e own) with
    | some e1 => (fc e1).nx.bind fun b e2 => if b = true then (fe e2).nx.bind fun y e3 => (compL own g fc fe ds e3).bind fun r e4 => .ok (y :: r) e4 else compL own g fc fe ds e2
    | none => .bad
def compE (own : List Nat) (fi : Env → Rs (List PyData)) (g : PyData → Env → Option Env) (fc : Env → Rs Bool) (fe : Env → Rs PyData) : Env → Rs PyData := fun env => (fi env).bind fun items e0 =>
  if items.length ≤ lim then (compL own g fc fe items e0).bind fun ds e1 => .ok (.list ds) (wipeE e1 own) else .bad
def yesB : Env → Rs Bool := fun e => .ok true e
/-- the block's contexts -/
def blkC (C : Ct) (scope : Scope) : Ct where
  ι := C.ι × Shared × Hp × Addr × List (Str × Addr) × List Addr
  X := fun p => (C.X p.1).blk p.2.1 p.2.2.1 scope (compEnvC scope p.2.2.2.2.1 p.2.2.2.1 (C.X p.1).env) p.2.2.2.2.2
  K := C.K
  H0 := C.H0
  M := C.M
  W := fun _ _ _ _ => False
  hK := fun p => C.hK p.1
  tk := fun _ => takes0
section
variable {K : PySem.W.Frag} {H0 : Hp} {M U : List Nat} {σ σ2 : St} {H H' : Hp} {env : Env} {Fs : Nat → List Addr}
theorem EnvR.keepW (R : EnvR K H0 M U σ H env Fs) {w : Addr → Prop} (hk : Keep w H H') (hw : ∀ a, w a → MutA H a) (hn : ∀ j, ∀ a ∈ Fs j, ¬ w a) (hd : ∀ a, H' a = none → H a = none) (h0 : M = [] → ∀ a, w a → H0 a = none) : EnvR K H0 M U σ H' env Fs := by
  refine ⟨R.len, fun i d e => ?_, fun i hi => ?_, R.nil, fun a e => R.dom a (hd a e), fun e => (R.kp e).keep hk (h0 e)⟩
  · obtain ⟨v, h1, h2⟩ := R.rep i d e
    exact ⟨v, h1, h2.keep hk hw (hn i)⟩
  · obtain ⟨d, a, G, h1, h2, h3, h4, h5, h6, h7, h8⟩ := R.uni i hi
    have na : ¬ w a := hn i a (by rw [h4]; exact List.mem_cons_self)
    refine ⟨d, a, G, h1, h2, h3, h4, h5, h6, ?_, h8⟩
    rcases h7 with ⟨x, e⟩ | ⟨x, e⟩ | ⟨x, e⟩
    · exact .inl ⟨x, hk _ _ e na⟩
    · exact .inr (.inl ⟨x, hk _ _ e na⟩)
    · exact .inr (.inr ⟨x, hk _ _ e na⟩)
theorem EnvR.wipe : ∀ {vs UL : List Nat}, EnvR K H0 M U σ H env Fs → (∀ i ∈ UL, i ∈ U ∧ i ∉ vs) → EnvR K H0 M UL σ H (wipeE env vs) (wipeF Fs vs)
  | [], _, R, h => R.weak fun i hi => (h i hi).1
  | v :: vs, _, R, h => by
    have R2 := EnvR.wipe (UL := U.filter fun i => !vs.contains i) (vs := vs) R fun i hi => by
      have := List.mem_filter.mp hi
      exact ⟨this.1, by simpa using this.2⟩
    refine R2.drop fun j hj => ⟨List.mem_filter.mpr ⟨(h j hj).1, ?_⟩, fun z => (h j hj).2 (by rw [z]; exact List.mem_cons_self)⟩
    have z : j ∉ vs := fun z => (h j hj).2 (List.mem_cons_of_mem _ z)
    simpa using z
theorem wipeE_get : ∀ {vs : List Nat} {e : Env} {i : Nat} {d : PyData}, (wipeE e vs)[i]? = some (some d) → e[i]? = some (some d) ∧ i ∉ vs
  | [], _, _, _, h => ⟨h, List.not_mem_nil⟩
  | v :: vs, e, i, d, h => by
    unfold wipeE at h
    by_cases z : v = i
    · subst z
      by_cases hv : v < (wipeE e vs).length
      · rw [List.getElem?_set_self hv] at h
        cases h
      · rw [List.getElem?_eq_none (by rw [List.length_set]; omega)] at h
        cases h
    · rw [List.getElem?_set_ne z] at h
      obtain ⟨h1, h2⟩ := wipeE_get h
      exact ⟨h1, by simp only [List.mem_cons, not_or]; exact ⟨fun e => z e.symm, h2⟩⟩
theorem wipe_get : ∀ {vs : List Nat} {σ : St} {i : Nat}, i ∉ vs → (L2.wipe σ vs)[i]? = σ[i]?
  | [], _, _, _ => rfl
  | v :: vs, σ, i, h => by
    unfold L2.wipe
    rw [List.getElem?_set_ne fun z => h (by rw [z]; exact List.mem_cons_self)]
    exact wipe_get fun z => h (List.mem_cons_of_mem _ z)
theorem wipe_eq {vs : List Nat} {i : Nat} (h : L2.wipe σ2 vs = L2.wipe σ vs) (hi : i ∉ vs) : σ2[i]? = σ[i]? := by
  rw [← wipe_get (σ := σ2) hi, h, wipe_get hi]
theorem wipeF_sub : ∀ {vs : List Nat} {j : Nat} {a : Addr}, a ∈ wipeF Fs vs j → a ∈ Fs j
  | [], _, _, h => h
  | v :: vs, j, a, h => by
    unfold wipeF at h
    by_cases z : j = v
    · rw [z, setF_same] at h
      cases h
    · rw [setF_ne z] at h
      exact wipeF_sub h
/-- other slots may be put in the place of those that the environment does not tell -/
theorem EnvR.slots (R : EnvR K H0 M U σ2 H env Fs) {σ : St} (hl : σ.length = σ2.length) (h : ∀ (i : Nat) (d : PyData), env[i]? = some (some d) → σ[i]? = σ2[i]?) : EnvR K H0 M U σ H env Fs :=
  ⟨hl.trans R.len, fun i d e => by
    rw [h i d e]
    exact R.rep i d e, fun i hi => by
    obtain ⟨d, a, G, h1, h2, h3, h4⟩ := R.uni i hi
    exact ⟨d, a, G, h1, h2, by rw [h i d h1]; exact h3, h4⟩, R.nil, R.dom, R.kp⟩
/-- at a turn's start -/
theorem EnvR.toWipe {vs UL : List Nat} (R : EnvR K H0 M U σ2 H env Fs) (hw : L2.wipe σ2 vs = L2.wipe σ vs) (h : ∀ i ∈ UL, i ∈ U ∧ i ∉ vs) : EnvR K H0 M UL (L2.wipe σ vs) H (wipeE env vs) (wipeF Fs vs) := by
  have R2 := EnvR.wipe (vs := vs) R h
  refine R2.slots ?_ fun i d e => ?_
  · rw [← hw, wipe_length]
  · rw [← hw, wipe_get (wipeE_get e).2]
theorem EnvR.unWipe {vs UL : List Nat} (R : EnvR K H0 M U σ2 H env Fs) (hw : L2.wipe σ2 vs = L2.wipe σ vs) (h : ∀ i ∈ UL, i ∈ U ∧ i ∉ vs) : EnvR K H0 M UL σ H (wipeE env vs) (wipeF Fs vs) := by
  have R2 := EnvR.wipe (vs := vs) R h
  refine R2.slots ?_ fun i d e => ?_
  · have := congrArg List.length hw
    rw [wipe_length, wipe_length] at this
    exact this.symm
  · exact (wipe_eq hw (wipeE_get e).2).symm
theorem wipe_key {j : Nat} : ∀ {vs : List Nat} {σ τ : St}, σ.length = τ.length → j ∈ vs → (L2.wipe σ vs)[j]? = (L2.wipe τ vs)[j]? := by
  intro vs
  induction vs with
  | nil => intro _ _ _ h; cases h
  | cons v r ih =>
    intro σ τ hl hm
    unfold L2.wipe
    by_cases z : v = j
    · subst z
      by_cases hv : v < (L2.wipe σ r).length
      · rw [List.getElem?_set_self hv, List.getElem?_set_self (by rw [wipe_length] at hv ⊢; omega)]
      · rw [List.getElem?_eq_none (by rw [List.length_set]; omega), List.getElem?_eq_none (by rw [List.length_set, wipe_length]; rw [wipe_length] at hv; omega)]
    · rw [List.getElem?_set_ne z, List.getElem?_set_ne z]
      exact ih hl ((List.mem_cons.mp hm).resolve_left fun e => z e.symm)
theorem wipe_wipe (σ : St) (vs : List Nat) : L2.wipe (L2.wipe σ vs) vs = L2.wipe σ vs := by
  refine List.ext_getElem? fun i => ?_
  by_cases h : i ∈ vs
  · exact wipe_key (by rw [wipe_length]) h
  · rw [wipe_get h]
end
section
variable {C : Ct} {U Rv Rv2 U1 UL Rb : List Nat} {is : List Nat} {elt tg it : Expr} {ifs : List Expr} {scope : Scope} {fi : Env → Rs (List PyData)} {g : PyData → Env → Option Env} {fc : Env → Rs Bool} {fe : Env → Rs PyData} {pos : Pos}
/-- the tests of a clause -/
def DTs (C : Ct) (U Rv : List Nat) (es : List Expr) (f : Env → Rs Bool) : Prop :=
  ∃ t : TT, (∀ z, PTs (C.X z) es t) ∧ ∀ (σ : St) (H : Hp) (env : Env) (Fs : Nat → List Addr) (Q : Bool → Hp → Prop), EnvR C.K C.H0 C.M U σ H env Fs →
    (f env).wp (fun b env' => ∀ H' Fs', TPost C U Rv σ H Fs U env' H' Fs' → Q b H') (EC C) → t σ H Q
theorem dts_nil : DTs C U Rv [] yesB := ⟨tYes, fun _ => pts_nil, fun σ H env Fs Q R h => h H Fs (TPost.refl R)⟩
theorem dts_one {c : Expr} (h : DT C U Rv c fc U) : DTs C U Rv [c] fc := by
  obtain ⟨_, t, hp, hs⟩ := h
  exact ⟨t, fun z => pts_one (hp z), hs⟩
/-- what is true at a turn's start -/
structure LcInv (C : Ct) (U Rv UL : List Nat) (σ : St) (H : Hp) (Fs : Nat → List Addr) (vs : List Nat) (H1 : Hp) (D : Addr) (Rv2 : List Nat) (e' : Env) (Fs' : Nat → List Addr) (σ2 : St) (H' : Hp) (acc : List V) (ds : List PyData) (G : List Addr) : Prop where
  env : EnvR C.K C.H0 C.M UL σ2 H' e' Fs'
  wip : L2.wipe σ2 vs = L2.wipe σ vs
  keep : Keep (Wr UL Rv2 σ) H1 H'
  dom : ∀ a, H' a = none → H1 a = none
  grow : ∀ j a, a ∈ Fs' j → (∃ k, a ∈ Fs k) ∨ H a = none
  dn : ∀ j, D ∉ Fs' j
  at_ : H' D = some (.lst acc)
  rep : RepL C.K H' acc ds G
  dG : D ∉ G
  cG : Clean UL σ G
  gG : ∀ a ∈ G, (∃ k, a ∈ Fs k) ∨ H a = none
theorem LcInv.step {U : List Nat} {σ σ2 : St} {H H1 H' H2 : Hp} {Fs Fs' Fs2 : Nat → List Addr} {vs : List Nat} {D : Addr} {e' e2 : Env} {acc : List V} {ds : List PyData} {G : List Addr} (I : LcInv C U Rv UL σ H Fs vs H1 D Rv2 e' Fs' σ2 H' acc ds G)
    (q : TPost (blkC C scope) UL Rv2 σ2 H' Fs' UL e2 H2 Fs2) (roots : ∀ j ∈ UL, σ2[j]? = σ[j]?) (pd : ∀ a, H1 a = none → H a = none) : LcInv C U Rv UL σ H Fs vs H1 D Rv2 e2 Fs2 σ2 H2 acc ds G := by
  have tr : ∀ a, Wr UL Rv2 σ2 a → Wr UL Rv2 σ a := fun a ⟨i, q1, q2, q3⟩ => ⟨i, q1, q2, by rw [← roots i q1]; exact q3⟩
  have nD : ¬ Wr UL Rv2 σ2 D := fun ⟨i, q1, _, q3⟩ => by
    obtain ⟨_, _, _, _, e, _⟩ := I.env.root q1 q3
    exact I.dn i (by rw [e]; exact List.mem_cons_self)
  refine ⟨q.env, I.wip, I.keep.trans q.keep fun a _ z => tr a z, fun a e => I.dom a (q.dom a e), fun j a m => ?_, fun j m => ?_, q.keep D _ I.at_ nD, I.rep.keep q.keep (fun a z => I.env.wr z) fun a m ⟨i, q1, q2, q3⟩ => ?_, I.dG, I.cG, I.gG⟩
  · rcases q.grow j a m with ⟨k, hk⟩ | z
    · exact I.grow k a hk
    · exact .inr (pd a (I.dom a z))
  · rcases q.grow j D m with ⟨k, hk⟩ | z
    · exact I.dn k hk
    · rw [I.at_] at z
      cases z
  · rw [roots i q1] at q3
    exact I.cG i q1 a q3 m
theorem LcInv.push {U : List Nat} {σ σ2 : St} {H H1 H' : Hp} {Fs Fs' : Nat → List Addr} {vs : List Nat} {D : Addr} {e' : Env} {acc : List V} {ds : List PyData} {G F : List Addr} {v : V} {y : PyData} (I : LcInv C U Rv UL σ H Fs vs H1 D Rv2 e' Fs' σ2 H' acc ds G)
    (r : Rep C.K H' v y F) (c : Clean UL σ F) (gF : ∀ a ∈ F, (∃ k, a ∈ Fs k) ∨ H a = none) (dF : D ∉ F) (hD : H1 D = none) (hD0 : C.H0 D = none) : LcInv C U Rv UL σ H Fs vs H1 D Rv2 e' Fs' σ2 (upd H' D (.lst (acc ++ [v]))) (acc ++ [v]) (ds ++ [y]) (G ++ F) := by
  have w : ∀ a, a = D → MutA H' a := fun a e => by
    rw [e]
    exact .inl ⟨_, I.at_⟩
  have k : Keep (fun a => a = D) H' (upd H' D (.lst (acc ++ [v]))) := Keep.write rfl
  have dm : ∀ a, upd H' D (.lst (acc ++ [v])) a = none → H' a = none := fun a e => by
    by_cases z : a = D
    · subst z
      rw [upd_same] at e
      cases e
    · rw [upd_ne z] at e
      exact e
  refine ⟨I.env.keepW k w (fun j a m e => I.dn j (by rw [← e]; exact m)) dm (fun _ a e => by rw [e]; exact hD0), I.wip, fun a o e n => ?_, fun a e => I.dom a (dm a e), I.grow, I.dn, upd_same, ?_, fun m => ?_, I.cG.append c, fun a m => (List.mem_append.mp m).elim (I.gG a) (gF a)⟩
  · rw [upd_ne (ne_of_none e hD)]
    exact I.keep a o e n
  · refine (I.rep.keep k w fun a m e => I.dG (by rw [← e]; exact m)).append ?_
    have := RepL.cons (r.keep k w fun a m e => dF (by rw [← e]; exact m)) .nil
    rw [List.append_nil] at this
    exact this
  · exact (List.mem_append.mp m).elim I.dG dF
/-- an expression under a premise -/
def DEp (C : Ct) (Pre : St → Hp → Prop) (U Rv : List Nat) (e : Expr) (f : Env → Rs PyData) (U' : List Nat) (kd : Kd) : Prop :=
  (∀ i ∈ U', i ∈ U) ∧ ∃ t : TE, (∀ x, PE (C.X x) e t) ∧ ∀ (σ : St) (H : Hp) (env : Env) (Fs : Nat → List Addr) (Q : VK), EnvR C.K C.H0 C.M U σ H env Fs → Pre σ H →
    (f env).wp (fun d env' => ∀ v H' Fs' F, EPost C U Rv σ H Fs U' kd d env' v H' Fs' F → Q v H') (EC C) → t σ H Q
/-- .. whose list may be stored at once: name = [..] on one line -/
def DEs (C : Ct) (Pre : St → Hp → Prop) (U Rv : List Nat) (e : Expr) (f : Env → Rs PyData) (U' : List Nat) (kd : Kd) : Prop :=
  (∀ i ∈ U', i ∈ U) ∧ ∃ t : TE, (∀ x, PE (C.X x) e t) ∧ (∀ z (i : Nat) (y : Str) (py spos : Pos), (C.X z).N[i]? = some y → (C.X z).env.scope.names.lookup y = some .local → swapsWith e (some (.Name y py)) spos.line (C.X z).env = pure true → PS (C.X z) (.Assign [.Name y py] e spos) (tAsg t (gName i))) ∧
    ∀ (σ : St) (H : Hp) (env : Env) (Fs : Nat → List Addr) (Q : VK), EnvR C.K C.H0 C.M U σ H env Fs → Pre σ H →
    (f env).wp (fun d env' => ∀ v H' Fs' F, EPost C U Rv σ H Fs U' kd d env' v H' Fs' F → Q v H') (EC C) → t σ H Q
theorem DEs.p {C : Ct} {Pre : St → Hp → Prop} {U Rv : List Nat} {e : Expr} {f : Env → Rs PyData} {U' : List Nat} {kd : Kd} (h : DEs C Pre U Rv e f U' kd) : DEp C Pre U Rv e f U' kd :=
  let ⟨h1, t, h2, _, h3⟩ := h
  ⟨h1, t, h2, h3⟩
theorem de_lcS {Pre : St → Hp → Prop} {own : List (Str × Nat)} (hc : ∀ z, (C.X z).calm = true) (hN : ∀ z, (C.X z).N.Nodup) (hi : DIp C Pre U Rv tg it fi U1 Rb) (ok : ∀ z, BlkOk (C.X z).N (C.X z).env.scope scope own)
    (hg : DG (blkC C scope) is tg g) (ht : DTs (blkC C scope) UL Rv2 ifs fc) (he : DE (blkC C scope) UL Rv2 elt fe UL .cl)
    (hL : ∀ i ∈ UL, i ∈ U1 ∧ i ∉ is ∧ i ∉ own.map (·.2)) (hR : ∀ i ∈ Rv, i ∈ Rv2) (hRb : ∀ i ∈ Rb, i ∈ Rv2) (hM : ∀ i ∈ is, i ∉ C.M ∧ i ∉ Rv2) (his : ∀ i ∈ is, i ∈ own.map (·.2)) (hs : ∀ z y, foldedSetIterable it (C.X z).env y = pure y := by intro _ _; rfl) :
    DEs C Pre U Rv (.ListComp elt [⟨tg, it, ifs, 0⟩] scope pos) (compE (own.map (·.2)) fi g fc fe) UL .fr := by
  obtain ⟨h1, w, wp', ws⟩ := hi
  obtain ⟨tg', gp, gs⟩ := hg
  obtain ⟨tt, tp, ts⟩ := ht
  obtain ⟨_, te, ep, es⟩ := he
  refine ⟨fun i h => h1 i (hL i h).1, tLc w tg' tt te (own.map (·.2)), fun z => pe_lc (hc z) (hN z) (wp' z) (ok z) (fun s H Ca cl fp => gp (z, s, H, Ca, cl, fp)) (fun s H Ca cl fp => tp (z, s, H, Ca, cl, fp)) (fun s H Ca cl fp => ep (z, s, H, Ca, cl, fp)) (hs z), fun z i y py spos q1 q2 q3 => ps_setLc (hc z) (hN z) q1 q2 q3 (wp' z) (ok z) (fun s H Ca cl fp => gp (z, s, H, Ca, cl, fp)) (fun s H Ca cl fp => tp (z, s, H, Ca, cl, fp)) (fun s H Ca cl fp => ep (z, s, H, Ca, cl, fp)) (hs z), fun σ H env Fs Q R hpre h => ws σ H env Fs _ R hpre ?_⟩
  generalize hvs : own.map (·.2) = vs at *
  unfold compE at h
  rw [wp_bind] at h
  refine wp_mono h fun items e0 k J H1 Fs1 hold Fh Fi p ok' hh0 hFh hFi gFi tFi D hD => ?_
  split at k
  case isFalse => exact k.elim
  case isTrue hlim =>
  rw [wp_bind] at k
  have R1 : EnvR C.K C.H0 C.M UL σ H1 e0 Fs1 := p.env.weak fun i hi => (hL i hi).1
  have dF : ∀ {Fs' : Nat → List Addr}, (∀ j a, a ∈ Fs' j → (∃ k, a ∈ Fs k) ∨ H a = none) → True := fun _ => trivial
  have noW : ∀ a ∈ Fh, ¬ Wr UL Rv2 σ a := fun a ha ⟨j, q1, q2, q3⟩ => hFh j (hL j q1).1 (fun z => q2 (hRb j z)) a q3 ha
  -- the start
  have s0 : Same H1 (upd H1 D (.lst [])) := same_new hD
  have I0 : LcInv C U Rv UL σ H Fs vs H1 D Rv2 e0 Fs1 σ (upd H1 D (.lst [])) [] [] [] :=
    ⟨R1.same s0, rfl, Keep.same s0, fun a e => s0.free e, p.grow, fun j m => p.env.trk m hD, upd_same, .nil, List.not_mem_nil, Clean.nil, fun _ m => nomatch m⟩
  -- the end
  have fin : ∀ {e' : Env} {Fs' : Nat → List Addr} {σ2 : St} {H' : Hp} {acc : List V} {ds : List PyData} {G : List Addr}, LcInv C U Rv UL σ H Fs vs H1 D Rv2 e' Fs' σ2 H' acc ds G →
      (∀ v H' Fs' F, EPost C U Rv σ H Fs UL .fr (.list ds) (wipeE e' vs) v H' Fs' F → Q v H') → Q (.ref D) H' := fun {e' Fs' σ2 H' acc ds G} I k => by
    have R' : EnvR C.K C.H0 C.M UL σ H' (wipeE e' vs) (wipeF Fs' vs) := I.env.unWipe I.wip fun i hi => ⟨hi, (hL i hi).2.2⟩
    have tr : ∀ a, H1 a ≠ none → Wr UL Rv2 σ a → Wr U Rv σ a := fun a _ ⟨i, q1, q2, q3⟩ => ⟨i, h1 i (hL i q1).1, fun z => q2 (hR i z), q3⟩
    refine k _ H' (wipeF Fs' vs) (D :: G) ⟨R', p.keep.trans (I.keep.mono (w' := Wr UL Rv2 σ) fun _ z => z) fun a n z => ?_, fun a e => p.dom a (I.dom a e), fun j a m => I.grow j a (wipeF_sub m), .lst I.at_ I.rep, fun a m => ?_, ⟨D, G, rfl, rfl, I.dG, rfl, fun j m => I.dn j (wipeF_sub m), .inl ⟨_, I.at_⟩, p.env.dom D hD, I.cG⟩, fun _ a ha => ?_⟩
    · obtain ⟨i, q1, q2, q3⟩ := z
      exact ⟨i, h1 i (hL i q1).1, fun z => q2 (hR i z), q3⟩
    · rcases List.mem_cons.mp m with z | z
      · exact .inr (by rw [z]; exact p.dom D hD)
      · exact I.gG a z
    · cases ha
      exact .inl (p.dom _ hD)
  refine ⟨fun i m H' => m = items.length - i ∧ i ≤ items.length ∧ ∃ e' Fs' σ2 acc ds G, acc.length ≤ i ∧ LcInv C U Rv UL σ H Fs vs H1 D Rv2 e' Fs' σ2 H' acc ds G ∧
    (compL vs g fc fe (items.drop i) e').wp (fun r e4 => ∀ v H' Fs' F, EPost C U Rv σ H Fs UL .fr (.list (ds ++ r)) (wipeE e4 vs) v H' Fs' F → Q v H') (EC C), ⟨items.length, rfl, Nat.zero_le _, e0, Fs1, σ, [], [], [], Nat.le_refl _, I0, k⟩, ?_⟩
  rintro i m H' ⟨rfl, hi, e', Fs', σ2, acc, ds, G, hacc, I, k'⟩
  have hh : hold H' := ok'.keep _ _ _ hh0 I.keep (fun a z => R1.wr z) noW
  by_cases hlt : i < items.length
  · have hd : items[i]? = some items[i] := List.getElem?_eq_getElem hlt
    have hdrop : items.drop i = items[i] :: items.drop (i + 1) := List.drop_eq_getElem_cons hlt
    rw [hdrop] at k'
    unfold compL at k'
    refine .inr ⟨ok'.go i H' hh hlt, fun H2 => ∃ e2 Fs2 σ2 acc ds G, acc.length ≤ i + 1 ∧ LcInv C U Rv UL σ H Fs vs H1 D Rv2 e2 Fs2 σ2 H2 acc ds G ∧
      (compL vs g fc fe (items.drop (i + 1)) e2).wp (fun r e4 => ∀ v H' Fs' F, EPost C U Rv σ H Fs UL .fr (.list (ds ++ r)) (wipeE e4 vs) v H' Fs' F → Q v H') (EC C), fun H2 ⟨e2, Fs2, q0⟩ => ⟨items.length - (i + 1), by omega, rfl, hlt, e2, Fs2, q0⟩, fun y H2 hy => ?_⟩
    obtain ⟨sm, F, rF, sF⟩ := ok'.yld i H' y H2 _ hh hy hd
    cases hg1 : g items[i] (wipeE e' vs) with
    | none =>
      rw [hg1] at k'
      exact (show False from k').elim
    | some e1 =>
      rw [hg1] at k'
      simp only at k'
      rw [wp_bind] at k'
      have Rw : EnvR C.K C.H0 C.M UL (L2.wipe σ vs) H' (wipeE e' vs) (wipeF Fs' vs) := I.env.toWipe I.wip fun i hi => ⟨hi, (hL i hi).2.2⟩
      have roots : ∀ {σ' : St}, L2.wipe σ' vs = L2.wipe σ vs → ∀ j ∈ UL, σ'[j]? = σ[j]? := fun h j hj => wipe_eq h (hL j hj).2.2
      have cF : Clean UL (L2.wipe σ vs) F := fun j hj a ea m => by
        rw [roots (wipe_wipe σ vs) j hj] at ea
        exact hFi j (hL j hj).1 a ea (sF a m)
      refine gs UL Rv2 UL (L2.wipe σ vs) H2 (wipeE e' vs) e1 (wipeF Fs' vs) y items[i] F _ (Rw.same sm) rF cF hg1 hM (fun j hj => ⟨hj, (hL j hj).2.1⟩) fun σ3 Fs3 R3 g3 f3 l3 => ?_
      have w3 : L2.wipe σ3 vs = L2.wipe σ vs := by
        rw [← wipe_wipe σ vs]
        refine List.ext_getElem? fun j => ?_
        by_cases hj : j ∈ vs
        · exact wipe_key l3 hj
        · rw [wipe_get hj, wipe_get hj]
          exact f3 j fun z => hj (his j z)
      refine ⟨w3, ?_⟩
      have rt := roots w3
      have I3 : LcInv C U Rv UL σ H Fs vs H1 D Rv2 e1 Fs3 σ3 H2 acc ds G := by
        refine ⟨R3, w3, I.keep.trans (Keep.same (w := fun _ => False) sm) (fun _ _ z => z.elim), fun a e => I.dom a (sm.free e), fun j a m => ?_, fun j m => ?_, sm _ _ I.at_, I.rep.same sm, I.dG, I.cG, I.gG⟩
        · rcases g3 j a m with ⟨l, hl⟩ | hl
          · exact I.grow l a (wipeF_sub hl)
          · exact gFi a (sF a hl)
        · rcases g3 j D m with ⟨l, hl⟩ | hl
          · exact I.dn l (wipeF_sub hl)
          · exact tFi D (.inl (sF D hl)) hD
      refine ts σ3 H2 e1 Fs3 _ R3 (wp_mono (wp_nx k') fun b e2 k2 H3 Fs4 q => ?_)
      have I4 := I3.step (scope := scope) q rt p.dom
      cases b with
      | false =>
        simp only [Bool.false_eq_true, if_false] at k2 ⊢
        exact ⟨e2, Fs4, σ3, acc, ds, G, Nat.le_succ_of_le hacc, I4, k2⟩
      | true =>
        simp only [if_true] at k2 ⊢
        rw [wp_bind] at k2
        refine es σ3 H3 e2 Fs4 _ q.env (wp_mono (wp_nx k2) fun yd e3 k3 v H4 Fs5 F5 p5 => ?_)
        have I5 := I4.step (scope := scope) p5.t rt p.dom
        rw [wp_bind] at k3
        refine ⟨acc, I5.at_, lim_lt (by omega), e3, Fs5, σ3, acc ++ [v], ds ++ [yd], G ++ F5, by rw [List.length_append]; exact Nat.succ_le_succ hacc, I5.push p5.rep (fun j hj a ea m => ?_) (fun a m => ?_) (fun m => ?_) hD (R1.dom D hD), wp_mono k3 fun r e4 k4 => ?_⟩
        · rw [← rt j hj] at ea
          exact p5.knd j hj a ea m
        · rcases p5.fgrow a m with ⟨l, hl⟩ | z
          · exact I4.grow l a hl
          · exact .inr (p.dom a (I4.dom a z))
        · rcases p5.fgrow D m with ⟨l, hl⟩ | z
          · exact I4.dn l hl
          · rw [I4.at_] at z
            cases z
        · rw [List.append_assoc]
          exact k4
  · have e : i = items.length := by omega
    subst e
    rw [List.drop_length] at k'
    refine .inl ⟨ok'.stop _ H' hh rfl, ?_⟩
    have k2 : ∀ v H' Fs' F, EPost C U Rv σ H Fs UL .fr (.list (ds ++ [])) (wipeE e' vs) v H' Fs' F → Q v H' := k'
    rw [List.append_nil] at k2
    exact fin I k2
theorem de_lcP {Pre : St → Hp → Prop} {own : List (Str × Nat)} (hc : ∀ z, (C.X z).calm = true) (hN : ∀ z, (C.X z).N.Nodup) (hi : DIp C Pre U Rv tg it fi U1 Rb) (ok : ∀ z, BlkOk (C.X z).N (C.X z).env.scope scope own)
    (hg : DG (blkC C scope) is tg g) (ht : DTs (blkC C scope) UL Rv2 ifs fc) (he : DE (blkC C scope) UL Rv2 elt fe UL .cl)
    (hL : ∀ i ∈ UL, i ∈ U1 ∧ i ∉ is ∧ i ∉ own.map (·.2)) (hR : ∀ i ∈ Rv, i ∈ Rv2) (hRb : ∀ i ∈ Rb, i ∈ Rv2) (hM : ∀ i ∈ is, i ∉ C.M ∧ i ∉ Rv2) (his : ∀ i ∈ is, i ∈ own.map (·.2)) (hs : ∀ z y, foldedSetIterable it (C.X z).env y = pure y := by intro _ _; rfl) :
    DEp C Pre U Rv (.ListComp elt [⟨tg, it, ifs, 0⟩] scope pos) (compE (own.map (·.2)) fi g fc fe) UL .fr :=
  (de_lcS hc hN hi ok hg ht he hL hR hRb hM his hs).p
theorem de_lc {own : List (Str × Nat)} (hc : ∀ z, (C.X z).calm = true) (hN : ∀ z, (C.X z).N.Nodup) (hi : DI C U Rv tg it fi U1 Rb) (ok : ∀ z, BlkOk (C.X z).N (C.X z).env.scope scope own)
    (hg : DG (blkC C scope) is tg g) (ht : DTs (blkC C scope) UL Rv2 ifs fc) (he : DE (blkC C scope) UL Rv2 elt fe UL .cl)
    (hL : ∀ i ∈ UL, i ∈ U1 ∧ i ∉ is ∧ i ∉ own.map (·.2)) (hR : ∀ i ∈ Rv, i ∈ Rv2) (hRb : ∀ i ∈ Rb, i ∈ Rv2) (hM : ∀ i ∈ is, i ∉ C.M ∧ i ∉ Rv2) (his : ∀ i ∈ is, i ∈ own.map (·.2)) (hs : ∀ z y, foldedSetIterable it (C.X z).env y = pure y := by intro _ _; rfl) :
    DE C U Rv (.ListComp elt [⟨tg, it, ifs, 0⟩] scope pos) (compE (own.map (·.2)) fi g fc fe) UL .fr := by
  obtain ⟨h1, t, tp, ts⟩ := de_lcP hc hN hi ok hg ht he hL hR hRb hM his hs
  exact ⟨h1, t, tp, fun σ H env Fs Q R h => ts σ H env Fs Q R trivial h⟩
end
end DV

set_option Elab.async false
set_option linter.all false
set_option maxRecDepth 100000
set_option maxHeartbeats 2000000
namespace DV
open PySem L2 PySem.Spec PyProof.Rows

/-! ### what a def is worth -/
/-- the footprint of the i-th argument -/
def ffAt (FF : List (List Addr)) (i : Nat) : List Addr := FF.getD i []
/-- the arguments: each stands for its datum; those of M stand alone -/
structure ArgsR (K : PySem.W.Frag) (H : Hp) (M : List Nat) (vs : List V) (ds : List PyData) (FF : List (List Addr)) : Prop where
  rep : RepE K H vs ds FF
  uni : ∀ p ∈ M, ∃ (d : PyData) (a : Addr) (G : List Addr), ds[p]? = some d ∧ isC d = true ∧ vs[p]? = some (.ref a) ∧ ffAt FF p = a :: G ∧ a ∉ G ∧ (∀ j, j ≠ p → a ∉ ffAt FF j) ∧ MutA H a
/-- what is true behind the call -/
structure CPost (K : PySem.W.Frag) (H : Hp) (M : List Nat) (vs : List V) (FF : List (List Addr)) (rk : Kd) (d : PyData) (env' : Env) (v : V) (H' : Hp) (F : List Addr) (Fm : Nat → List Addr) : Prop where
  keep : Keep (fun a => ∃ p ∈ M, vs[p]? = some (.ref a)) H H'
  dom : ∀ a, H' a = none → H a = none
  rep : Rep K H' v d F
  fgrow : ∀ a ∈ F, (∃ j, a ∈ ffAt FF j) ∨ H a = none
  fcl : ∀ p ∈ M, ∀ a, vs[p]? = some (.ref a) → a ∉ F
  new : rk = .fr → ∃ (a : Addr) (G : List Addr), v = .ref a ∧ F = a :: G ∧ a ∉ G ∧ isC d = true ∧ H a = none ∧ MutA H' a ∧ ∀ p ∈ M, a ∉ Fm p
  mutp : ∀ p ∈ M, ∃ (d' : PyData) (a : Addr) (G : List Addr), env'[p]? = some (some d') ∧ isC d' = true ∧ vs[p]? = some (.ref a) ∧ Rep K H' (.ref a) d' (Fm p) ∧ Fm p = a :: G ∧ a ∉ G ∧ (∀ q ∈ M, q ≠ p → a ∉ Fm q) ∧ MutA H' a
  mgrow : ∀ p ∈ M, ∀ a ∈ Fm p, (∃ j, a ∈ ffAt FF j) ∨ H a = none
/-- the promise: called with values that stand for ds, it does what f says -/
def spD (K : PySem.W.Frag) (n : Nat) (M : List Nat) (rk : Kd) (f : List PyData → Rs PyData) : Sp := fun vs H Q E => ∃ ds FF, vs.length = n ∧ ArgsR K H M vs ds FF ∧
  (f ds).wp (fun d env' => ∀ v H' F Fm, CPost K H M vs FF rk d env' v H' F Fm → Q v H') (fun c x _ => M = [] ∧ ∀ cls d H', KF H H' → (∀ a, H' a = none → H a = none) → ExcRep K H' c x cls d → E cls d H')
/-- a body, run from its arguments; N: how many slots -/
def runF (N : Nat) (nn : Bool) (fb : Env → Rs Fl) : List PyData → Rs PyData := fun ds => (fb (ds.map some ++ List.replicate (N - ds.length) none)).bind fun fl e => match fl with
  | .nx => if nn = true then .ok .none e else .bad
  | .rt d => .ok d e
  | _ => .bad
section
variable {K : PySem.W.Frag} {H : Hp} {M : List Nat} {vs : List V} {ds : List PyData} {FF : List (List Addr)}
theorem RepE.length : ∀ {vs : List V} {ds : List PyData} {FF : List (List Addr)}, RepE K H vs ds FF → vs.length = ds.length ∧ FF.length = ds.length
  | _, _, _, .nil => ⟨rfl, rfl⟩
  | _, _, _, .cons _ l => by
    obtain ⟨h1, h2⟩ := RepE.length l
    exact ⟨by rw [List.length_cons, List.length_cons, h1], by rw [List.length_cons, List.length_cons, h2]⟩
theorem RepE.get : ∀ {vs : List V} {ds : List PyData} {FF : List (List Addr)} {i : Nat} {d : PyData}, RepE K H vs ds FF → ds[i]? = some d → ∃ v, vs[i]? = some v ∧ Rep K H v d (ffAt FF i)
  | _, _, _, i, _, .nil, e => by simp at e
  | _, _, _, 0, _, .cons r l, e => by
    simp at e
    subst e
    exact ⟨_, rfl, r⟩
  | _, _, _, i + 1, _, .cons r l, e => by
    obtain ⟨v, h1, h2⟩ := RepE.get (i := i) l (by simpa using e)
    exact ⟨v, by simpa using h1, by simpa [ffAt] using h2⟩
theorem ffAt_none (r : RepE K H vs ds FF) {i : Nat} (h : ds.length ≤ i) : ffAt FF i = [] := by
  unfold ffAt
  rw [List.getD_eq_getElem?_getD, List.getElem?_eq_none (by rw [r.length.2]; exact h)]
  rfl
theorem start_get {N : List Str} {i : Nat} {v : V} (hi : vs[i]? = some v) : (L2.start N vs)[i]? = some (some v) := by
  unfold L2.start
  have hl : i < vs.length := (List.getElem?_eq_some_iff.mp hi).1
  rw [List.getElem?_append_left (by rw [List.length_map]; exact hl), List.getElem?_map, hi]
  rfl
/-- at a body's start -/
theorem ArgsR.start {N : List Str} (A : ArgsR K H M vs ds FF) (hN : vs.length ≤ N.length) : EnvR K H M M (L2.start N vs) H (ds.map some ++ List.replicate (N.length - ds.length) none) (ffAt FF) := by
  have hl := A.rep.length
  have env_get : ∀ {i : Nat} {d : PyData}, (ds.map some ++ List.replicate (N.length - ds.length) none)[i]? = some (some d) → ds[i]? = some d := fun {i d} e => by
    by_cases h : i < ds.length
    · rw [List.getElem?_append_left (by rw [List.length_map]; exact h), List.getElem?_map] at e
      cases q : ds[i]? with
      | none =>
        rw [q] at e
        cases e
      | some d' =>
        rw [q] at e
        cases e
        rfl
    · rw [List.getElem?_append_right (by rw [List.length_map]; omega), List.getElem?_replicate] at e
      split at e <;> cases e
  have env_of : ∀ {i : Nat} {d : PyData}, ds[i]? = some d → (ds.map some ++ List.replicate (N.length - ds.length) none)[i]? = some (some d) := fun {i d} e => by
    have h : i < ds.length := (List.getElem?_eq_some_iff.mp e).1
    rw [List.getElem?_append_left (by rw [List.length_map]; exact h), List.getElem?_map, e]
    rfl
  refine ⟨?_, fun i d e => ?_, fun p hp => ?_, fun i h => ?_, fun _ e => e, fun _ => KF.refl⟩
  · unfold L2.start
    rw [List.length_append, List.length_append, List.length_map, List.length_map, List.length_replicate, List.length_replicate, hl.1]
  · obtain ⟨v, h1, h2⟩ := A.rep.get (env_get e)
    exact ⟨v, start_get h1, h2⟩
  · obtain ⟨d, a, G, h1, h2, h3, h4, h5, h6, h7⟩ := A.uni p hp
    exact ⟨d, a, G, env_of h1, h2, start_get h3, h4, h5, h6, h7, .inr hp⟩
  · by_cases hi : i < ds.length
    · exact absurd (env_of (List.getElem?_eq_getElem hi)) (h _)
    · exact ffAt_none A.rep (by omega)
end
section
variable {P : Program} {w : World} {K : PySem.W.Frag} {mg : Str → Option Value} {base : Heap}
/-- the contexts of a body -/
def bodyC (P : Program) (w : World) (K : PySem.W.Frag) (mg : Str → Option Value) (base : Heap) (N : List Str) (qual : Str) (sc : Scope) (f : Addr) (cdv : Value) (A : Around) (outer : List PySem.Env) (s : Shared) (H : Hp) (E : XK) (M : List Nat) : Ct where
  ι := Unit
  X := fun _ => cxOf (L2.CX P w) P w K mg base N qual sc f cdv A outer s H E
  K := K
  H0 := H
  M := M
  W := fun cls d _ H' => E cls d H'
  hK := fun _ => rfl
  tk := fun _ => takes_of rfl rfl rfl rfl
/-- a promise that is kept where nothing is shown at the time (no repr is under way) -/
structure FnG (P : Program) (w : World) (K : PySem.W.Frag) (mg : Str → Option Value) (base : Heap) (k : Nat) (f : Addr) (fd : FuncData) (ps : List Str) (sp : Sp) : Prop where
  len : ∀ vs H Q E, sp vs H Q E → vs.length = ps.length
  run : ∀ (A : Around) (outer : List PySem.Env) (s : Shared) (H : Hp) (args : Args) (us : List Value) (vs : List V) (Q : VK) (E : XK), Room k A → A.guards = some [] → Env0 P w K mg base A outer s H → BindsTo s fd args (ps.zip us) → Vals vs us → sp vs H Q E →
    codeAny (model P w) A (.call (.ref f) args) (CR (L2.CX P w) outer P w H s Q E) s
theorem fnG_of {x qual : Str} {f : Addr} {fd : FuncData} {N ps : List Str} {k : Nat} {params : Arguments} {sc : Scope} {body : List Stmt} {dvs : List V} {kws : List (Str × V)} {sp : Sp} (F : FunD K x qual params body sc dvs kws f fd) (S : FnScope N ps sc)
    (hl : ∀ vs H Q E, sp vs H Q E → vs.length = ps.length)
    (hb : ∀ (cdv : Value) (A : Around) (outer : List PySem.Env) (s : Shared) (H : Hp) (vs : List V) (Q : VK) (E : XK), Room k (A.deeper (envOfC qual sc s.heap.objs.size f cdv)) → (A.deeper (envOfC qual sc s.heap.objs.size f cdv)).guards = some [] → sp vs H Q E →
      ∃ t, PSs (cxOf (L2.CX P w) P w K mg base N qual sc f cdv A outer s H E) body t ∧ t { nx := fun _ H' => Q .non H', rt := Q } (L2.start N vs) H) : FnG P w K mg base (k + 1) f fd ps sp := by
  obtain ⟨oc, od, dV, kV, doc, pm, an, cdv, ct, osl, rfl, lk, hcd, _, _⟩ := F.ex
  refine ⟨hl, fun A outer s H args us vs Q E hr hg0 env0 bnd rel prom => ?_⟩
  have kin := env0.mod.kin.keeps fun b o e => (env0.bs b o e).1
  have nolim := env0.mod.nolimit.keeps fun b o e => (env0.bs b o e).1
  have kinds : ∀ y ∈ ps.zip us, sc.names.lookup y.1 = some .local ∨ (sc.names.lookup y.1 = some .cell ∧ ((cellsFrom (s.heap.objs.size + 1) sc.names []).lookup y.1).isSome = true) := by
    rintro ⟨n, v⟩ hy
    rcases S.par n (List.of_mem_zip hy).1 with q | q
    · exact .inl q
    · exact .inr ⟨q, PySem.W.cellsFrom_some _ _ _ (.inl q)⟩
  refine codeAny_call_function hr.depth (kin _ _ lk) rfl S.co S.gen rfl (PySem.W.codeRec_of kin hcd) (bnd _ _ _ _ ?_)
  refine wpAny_newFunctionEnv_cells S.kind kinds fun env he s1 inc => ?_
  subst he
  refine ⟨nolim.keeps inc.toInCall.keep, codeAny_func ?_⟩
  obtain ⟨t, ht, ho⟩ := hb cdv A outer s H vs Q E (hr.deeper _) hg0 prom
  have I0 := inv_start (CX := L2.CX P w) (E := E) S hr.hd env0 (hl _ _ _ _ prom) rel inc
  refine wpAny_mono (ht.run [] s1 (L2.start N vs) H _ I0 ho) (fun fl s' out => ?_) fun e s' out => out
  cases fl with
  | next =>
    obtain ⟨σ', H', J, q⟩ := out
    exact ⟨V.non, H', J.os, J.bare, J.base, J.hok, rfl, q⟩
  | ret u =>
    obtain ⟨v, σ', H', J, rv, q⟩ := out
    exact ⟨v, H', J.os, J.bare, J.base, J.hok, rv, q⟩
  | brk => exact out.elim fun _ ⟨_, _, z⟩ => z.elim
  | cont => exact out.elim fun _ ⟨_, _, z⟩ => z.elim
theorem fn_dv {x qual : Str} {st : Stmt} {f : Addr} {fd : FuncData} {N ps : List Str} {k n : Nat} {M : List Nat} {rk : Kd} {fb : Env → Rs Fl} {Un : List Nat} {params : Arguments} {sc : Scope} {body : List Stmt} {dvs : List V} {kws : List (Str × V)}
    (F : FunD K x qual params body sc dvs kws f fd) (S : FnScope N ps sc) (hn : ps.length = n) (hN : n ≤ N.length) (hrk : rk = .cl ∨ rk = .fr) {nn : Bool} (hnn : nn = true → rk = .cl)
    (hb : ∀ (cdv : Value) (A : Around) (outer : List PySem.Env) (s : Shared) (H : Hp) (E : XK), Room k (A.deeper (envOfC qual sc s.heap.objs.size f cdv)) → (A.deeper (envOfC qual sc s.heap.objs.size f cdv)).guards = some [] → DSs (bodyC P w K mg base N qual sc f cdv A outer s H E M) M [] body fb M ⟨[], [], M, rk⟩) :
    FnG P w K mg base (k + 1) f fd ps (spD K n M rk (runF N.length nn fb)) := by
  refine fnG_of F S (fun vs H Q E h => ?_) (fun cdv A outer s H vs Q E hr hgd h => ?_)
  · obtain ⟨ds, FF, h1, _⟩ := h
    rw [h1, hn]
  · obtain ⟨ds, FF, h1, a, hw⟩ := h
    obtain ⟨t, hp, hs⟩ := hb cdv A outer s H E hr hgd
    refine ⟨t, hp (), hs _ _ _ _ _ (a.start (N := N) (by rw [h1]; exact hN)) ?_⟩
    have hl := a.rep.length
    unfold runF at hw
    rw [wp_bind] at hw
    have mgr : ∀ {U' : List Nat} {σ' : L2.St} {H' : Hp} {env' : DV.Env} {Fs' : Nat → List Addr}, SPost (bodyC P w K mg base N qual sc f cdv A outer s H E M) M [] (L2.start N vs) H (ffAt FF) M σ' H' env' Fs' → ∀ {v : V} {d : PyData} {F : List Addr}, Rep K H' v d F → (∀ a ∈ F, (∃ j, a ∈ ffAt FF j) ∨ H a = none) → KdOk H M σ' H' Fs' v d F rk →
        CPost K H M vs FF rk d env' v H' F Fs' := fun {U' σ' H' env' Fs'} S {v d F} r g kd => by
      have root : ∀ p ∈ M, σ'[p]? = (L2.start N vs)[p]? := fun p hp => S.fix p (.inl hp)
      refine ⟨S.keep.mono fun b ⟨i, q1, _, q3⟩ => ?_, S.dom, r, g, fun p hp b hb => ?_, fun e => ?_, fun p hp => ?_, fun p hp b m => S.grow p b m⟩
      · obtain ⟨d', a', G, _, _, e3, _⟩ := a.uni i q1
        rw [start_get e3] at q3
        cases q3
        exact ⟨i, q1, e3⟩
      · have hc : Clean M σ' F := by
          rcases hrk with z | z
          · subst z
            exact kd
          · subst z
            exact kd.clean S.env fun i z => nomatch z
        exact hc p hp b (by rw [root p hp]; exact start_get hb)
      · subst e
        obtain ⟨b, G, q1, q2, q3, q4, q5, q6, q7, q8⟩ := kd
        exact ⟨b, G, q1, q2, q3, q4, q7, q6, fun p _ => q5 p⟩
      · obtain ⟨d', b, G, q1, q2, q3, q4, q5, q6, q7, _⟩ := S.env.uni p hp
        obtain ⟨_, b', _, _, _, e3, _⟩ := a.uni p hp
        obtain ⟨v', z1, z2⟩ := S.env.rep p d' q1
        rw [q3] at z1
        cases z1
        rw [root p hp, start_get e3] at q3
        cases q3
        exact ⟨d', b, G, q1, q2, e3, z2, q4, q5, fun q _ hq => q6 q hq, q7⟩
    have hd : ds.map some ++ List.replicate (N.length - ds.length) none = ds.map some ++ List.replicate (N.length - ds.length) none := rfl
    refine (?_ : (fb (ds.map some ++ List.replicate (N.length - ds.length) none)).wp _ _)
    cases e : fb (ds.map some ++ List.replicate (N.length - ds.length) none) with
    | ok fl env' =>
      rw [e] at hw
      cases fl with
      | nx =>
        intro σ' H' Fs' S
        cases nn with
        | false => exact (show False from hw).elim
        | true =>
          have z := hnn rfl
          refine (show ∀ v H' F Fm, CPost K H M vs FF rk .none env' v H' F Fm → Q v H' from hw) .non H' [] Fs' (mgr (U' := M) S .non (fun _ m => nomatch m) ?_)
          subst z
          exact Clean.nil
      | rt d => exact fun v σ' H' Fs' F p => hw v H' F Fs' (mgr (U' := M) p.s p.rep p.fgrow p.knd)
      | bk => exact (show False from hw).elim
      | ct => exact (show False from hw).elim
    | exc c x e2 =>
      rw [e] at hw
      obtain ⟨hM, hw⟩ := (show M = [] ∧ ∀ cls d H', KF H H' → (∀ a, H' a = none → H a = none) → ExcRep K H' c x cls d → E cls d H' from hw)
      exact fun cls d σ H' Fs hx R => hw cls d H' (R.kp hM) R.dom hx
    | bad =>
      rw [e] at hw
      exact (show False from hw).elim
end
end DV

set_option Elab.async false
set_option linter.all false
set_option maxRecDepth 100000
set_option maxHeartbeats 2000000
namespace DV
open PySem L2
open PySem.Spec
open PyProof.Rows hiding St

/-! ### names of a body, looked at once -/
def visB (sc : Scope) (x : Str) : Bool := (decide (sc.names.lookup x = some .local) || decide (sc.names.lookup x = some .cell) || decide (sc.names.lookup x = some .free)) && !(x == ("__debug__" : Str)) && !(x == ("__classdict__" : Str))
def locB (sc : Scope) (fnv : Str → Bool) (x : Str) : Bool := (decide (sc.names.lookup x = some .local) || (decide (sc.names.lookup x = some .cell) && fnv x))
def gloB (sc : Scope) (x : Str) : Bool := decide (sc.names.lookup x = some .globalImplicit) && !(x == ("__debug__" : Str)) && decide (x ≠ "__name__")
/-- vb, lb: the slots that are seen, that are stored; gs: the module's names -/
def chkN (N : List Str) (sc : Scope) (fnv : Str → Bool) (vb lb : List Bool) (gs : List Str) : Bool :=
  decide N.Nodup && ((N.zip vb).all fun p => !p.2 || visB sc p.1) && ((N.zip lb).all fun p => !p.2 || locB sc fnv p.1) && gs.all (gloB sc)
structure CtF (C : Ct) (N : List Str) (sc : Scope) (fnv : Str → Bool) (vb lb : List Bool) (gs : List Str) : Prop where
  n : ∀ z, (C.X z).N = N
  s : ∀ z, (C.X z).env.scope = sc
  f : ∀ z y, fnv y = true → (C.X z).fn y = true
  chk : chkN N sc fnv vb lb gs = true
section
variable {C : Ct} {N : List Str} {sc : Scope} {fnv : Str → Bool} {vb lb : List Bool} {gs : List Str} {i : Nat} {x : Str}
theorem zip_at {α β : Type} {l : List α} {m : List β} {i : Nat} {a : α} {b : β} (h1 : l[i]? = some a) (h2 : m[i]? = some b) : (a, b) ∈ l.zip m := by
  refine List.mem_iff_getElem?.mpr ⟨i, ?_⟩
  rw [List.getElem?_zip_eq_some]
  exact ⟨h1, h2⟩
theorem CtF.nd (F : CtF C N sc fnv vb lb gs) : ∀ z, (C.X z).N.Nodup := fun z => by
  have h := F.chk
  unfold chkN at h
  simp only [Bool.and_eq_true, decide_eq_true_eq] at h
  rw [F.n z]
  exact h.1.1.1
theorem CtF.at (F : CtF C N sc fnv vb lb gs) (hi : N[i]? = some x) : ∀ z, (C.X z).N[i]? = some x := fun z => by
  rw [F.n z]
  exact hi
theorem CtF.vis (F : CtF C N sc fnv vb lb gs) (hi : N[i]? = some x) (hv : vb[i]? = some true) : visB sc x = true := by
  have h := F.chk
  unfold chkN at h
  simp only [Bool.and_eq_true, decide_eq_true_eq] at h
  have := List.all_eq_true.mp h.1.1.2 _ (zip_at hi hv)
  simpa using this
theorem CtF.loc (F : CtF C N sc fnv vb lb gs) (hi : N[i]? = some x) (hv : lb[i]? = some true) : locB sc fnv x = true := by
  have h := F.chk
  unfold chkN at h
  simp only [Bool.and_eq_true, decide_eq_true_eq] at h
  have := List.all_eq_true.mp h.1.2 _ (zip_at hi hv)
  simpa using this
theorem CtF.glo (F : CtF C N sc fnv vb lb gs) (hi : gs[i]? = some x) : gloB sc x = true := by
  have h := F.chk
  unfold chkN at h
  simp only [Bool.and_eq_true, decide_eq_true_eq] at h
  exact List.all_eq_true.mp h.2 _ (List.mem_of_getElem? hi)
theorem CtF.visP (F : CtF C N sc fnv vb lb gs) (hi : N[i]? = some x) (hv : vb[i]? = some true) : (∀ z, Vis (C.X z).env.scope x) ∧ (x == ("__debug__" : Str)) = false ∧ (x == ("__classdict__" : Str)) = false := by
  have h := F.vis hi hv
  unfold visB at h
  simp only [Bool.and_eq_true, Bool.or_eq_true, decide_eq_true_eq, Bool.not_eq_true'] at h
  refine ⟨fun z => ?_, h.1.2, h.2⟩
  rw [F.s z]
  exact or_assoc.mp h.1.1
theorem CtF.locP (F : CtF C N sc fnv vb lb gs) (hi : N[i]? = some x) (hv : lb[i]? = some true) : (∀ z, Loc (C.X z).env.scope x) ∧ ∀ z, (C.X z).fn x = true ∨ (C.X z).env.scope.names.lookup x = some .local := by
  have h := F.loc hi hv
  unfold locB at h
  simp only [Bool.and_eq_true, Bool.or_eq_true, decide_eq_true_eq] at h
  refine ⟨fun z => ?_, fun z => ?_⟩
  · rw [F.s z]
    exact h.imp id fun q => q.1
  · rw [F.s z]
    exact h.elim .inr fun q => .inl (F.f z x q.2)
theorem CtF.gloP (F : CtF C N sc fnv vb lb gs) (hi : gs[i]? = some x) : (∀ z, Gl (C.X z) x) ∧ (x == ("__debug__" : Str)) = false ∧ x ≠ "__name__" := by
  have h := F.glo hi
  unfold gloB at h
  simp only [Bool.and_eq_true, decide_eq_true_eq, Bool.not_eq_true'] at h
  refine ⟨fun z => ?_, h.1.2, h.2⟩
  show (C.X z).env.scope.names.lookup x = _
  rw [F.s z]
  exact h.1.1
variable {U Rv U1 Un : List Nat} {e : Expr} {fe : Env → Rs PyData} {x' : Ex} {pos : Pos}
theorem v_ {pos : Pos} (F : CtF C N sc fnv vb lb gs) (i : Nat) (hi : N[i]? = some x) (hv : vb[i]? = some true) (hU : i ∉ U) : DE C U Rv (.Name x pos) (varE i) U .cl :=
  de_var (F.at hi) (F.visP hi hv).1 hU (F.visP hi hv).2.1 (F.visP hi hv).2.2
theorem o_ {pos : Pos} (F : CtF C N sc fnv vb lb gs) (i : Nat) (hi : N[i]? = some x) (hv : vb[i]? = some true) (hU : i ∈ U) : DE C U Rv (.Name x pos) (varE i) U (.br i) :=
  de_own (F.at hi) (F.visP hi hv).1 hU (F.visP hi hv).2.1 (F.visP hi hv).2.2
theorem m_ {pos : Pos} (F : CtF C N sc fnv vb lb gs) (i : Nat) (hi : N[i]? = some x) (hv : vb[i]? = some true) (hU : i ∈ U) (hM : i ∉ C.M) (hR : i ∉ Rv) (hU1 : ∀ j ∈ U1, j ∈ U ∧ j ≠ i) : DE C U Rv (.Name x pos) (moveE i) U1 .fr :=
  de_move (F.at hi) (F.visP hi hv).1 hU hM hR hU1 (F.visP hi hv).2.1 (F.visP hi hv).2.2
theorem asg_ {pos' : Pos} {kd : Kd} (F : CtF C N sc fnv vb lb gs) (i : Nat) (hi : N[i]? = some x) (hv : lb[i]? = some true) (he : DE C U Rv e fe U1 kd) (hM : i ∉ C.M) (hR : i ∉ Rv) (hb : ∀ j, kd ≠ .br j) (hU : ∀ j ∈ Un, (j = i ∧ kd = .fr) ∨ (j ∈ U1 ∧ j ≠ i))
    (hs : ∀ z, swapsWith e (some (.Name x pos')) pos.line (C.X z).env = pure false := by intro _; rfl) : DS C U Rv (.Assign [.Name x pos'] e pos) (asgS i fe) Un x' :=
  ds_asg F.nd (F.at hi) (F.locP hi hv).1 he hM hR hb hU hs (F.locP hi hv).2
theorem g_ {pos : Pos} (F : CtF C N sc fnv vb lb gs) (i : Nat) (hi : N[i]? = some x) (hv : lb[i]? = some true) : DG C [i] (.Name x pos) (nameG i) :=
  dg_name F.nd (F.at hi) (F.locP hi hv).1 (F.locP hi hv).2
end

/-! ### calls -/
section
variable {X : Cx} {k : Nat} {f : Addr} {fd : FuncData} {ps : List Str} {sp : Sp} {dvs : List V} {ds : List Value} {E : L2.St → XK} {x : Str} {p pos : Pos} {e : Expr} {es : List Expr} {t : TA}
theorem run_fnG {pins : List (Addr × Obj)} {σ : L2.St} {H : Hp} {s : Shared} {Q : VK} {us : List Value} {vs : List V} (F : FnG X.prog X.w X.K X.mg X.base k f fd ps sp) (hr : Room k X.A ∧ X.A.guards = some []) (hb : Binds X.K fd ps ds) (hd : Vals dvs ds) (hx : PassesAt (L2.CX X.prog X.w) X σ (E σ))
    (I : Inv X pins σ H s) (r : Vals vs us) (prom : sp (vs ++ dvs) H Q (E σ)) : wpAny (model X.prog X.w) X.A (call (.ref f) us) (EP X pins σ Q) X.xe s := by
  have rall := r.append hd
  have same : (us ++ ds).length = ps.length := rall.length.symm.trans (F.len _ _ _ _ prom)
  refine wpAny_call (codeAny_mono (F.run X.A X.stack s H ⟨us, []⟩ (us ++ ds) (vs ++ dvs) Q (E σ) hr.1 hr.2 I.env0 (hb s us I.kIn same) rall prom) fun out s' o => ?_)
  match out, o with
  | .error e, o => exact hx pins H s e s' I o
  | .ok (.ret u), o => exact I.after o
  | .ok .next, o => exact o.elim
  | .ok .brk, o => exact o.elim
  | .ok .cont, o => exact o.elim
/-- f(e, ..), the promise of a FnG -/
theorem pe_callG (F : FnG X.prog X.w X.K X.mg X.base k f fd ps sp) (hr : Room k X.A ∧ X.A.guards = some []) (hg : Gl X x) (hm : X.mg x = some (.ref f)) (hk : PySem.W.keepIn X.K (.ref f) = true) (hb : Binds X.K fd ps ds) (hd : Vals dvs ds) (hx : ∀ σ, PassesAt (L2.CX X.prog X.w) X σ (E σ))
    (ha : PA X (e :: es) t) (hdb : (x == ("__debug__" : Str)) = false) (he : starEach (e :: es) X.env = (false, eval e X.env) :: starEach es X.env) (hpl : (backTo pos (starEach es X.env)).any (·.1) = false) : PE X (.Call (.Name x p) (e :: es) [] pos) (tCallSD sp dvs E t) :=
  ⟨fun pins s σ H Q I want => wpAny_Call_Name_kw (ld_glob I hg hm (PySem.W.callWith_K (h₀ := X.base) I.ok.mod.kin hk (thn (ha.run pos pins s σ H _ I want) fun us s1 got =>
    let ⟨vs, H1, I1, r, q⟩ := got
    ⟨I1.kIn, run_fnG F hr hb hd (hx σ) I1 r q⟩) he hpl) hdb)⟩
/-- f() -/
theorem pe_callG0 (F : FnG X.prog X.w X.K X.mg X.base k f fd ps sp) (hr : Room k X.A ∧ X.A.guards = some []) (hg : Gl X x) (hm : X.mg x = some (.ref f)) (hk : PySem.W.keepIn X.K (.ref f) = true) (hb : Binds X.K fd ps ds) (hd : Vals dvs ds) (hx : ∀ σ, PassesAt (L2.CX X.prog X.w) X σ (E σ))
    (hdb : (x == ("__debug__" : Str)) = false) : PE X (.Call (.Name x p) [] [] pos) (tCallSD sp dvs E tNil) :=
  ⟨fun pins s σ H Q I want => wpAny_Call_Name_kw (ld_glob I hg hm (PySem.W.callWith_K0 I.kIn hk (run_fnG (us := []) F hr hb hd (hx σ) I .nil want)) hdb)⟩
end

/-- the def x may be called, m values written, the defaults dfl behind -/
structure CalD (C : Ct) (x : Str) (n m : Nat) (dfl : List PyData) (M : List Nat) (rk : Kd) (f : List PyData → Rs PyData) : Prop where
  nm : n = m + dfl.length
  lt : ∀ p ∈ M, p < m
  ex : ∃ dvs : List V, (∀ H, RepE C.K H dvs dfl (dfl.map fun _ => [])) ∧ ∀ z, ∃ (k : Nat) (fa : Addr) (fd : FuncData) (ps : List Str) (ds : List Value),
    FnG (C.X z).prog (C.X z).w (C.X z).K (C.X z).mg (C.X z).base k fa fd ps (spD C.K n M rk f) ∧ (Room k (C.X z).A ∧ (C.X z).A.guards = some []) ∧ (C.X z).mg x = some (.ref fa) ∧ PySem.W.keepIn (C.X z).K (.ref fa) = true ∧ Binds (C.X z).K fd ps ds ∧ Vals dvs ds
theorem RepE.append {K : PySem.W.Frag} {H : Hp} : ∀ {vs us : List V} {ds es : List PyData} {FF GG : List (List Addr)}, RepE K H vs ds FF → RepE K H us es GG → RepE K H (vs ++ us) (ds ++ es) (FF ++ GG)
  | _, _, _, _, _, _, .nil, h => h
  | _, _, _, _, _, _, .cons r l, h => .cons r (RepE.append l h)
section
variable {C : Ct} {U Rv U1 : List Nat} {es : List Expr} {e : Expr} {fa : Env → Rs (List PyData)} {kds : List Kd} {pos : Pos}
theorem AIts.at {σ : St} {H : Hp} {Fs0 : Nat → List Addr} {Hx : Hp} : ∀ {vs : List V} {ds : List PyData} {FF : List (List Addr)} {kds : List Kd} {i : Nat} {kd : Kd}, AIts C U σ H Fs0 Hx vs ds FF kds → kds[i]? = some kd → ∃ v d, vs[i]? = some v ∧ ds[i]? = some d ∧ AIt C U σ H Fs0 Hx v d (ffAt FF i) kd
  | _, _, _, _, i, _, .nil, e => by simp at e
  | _, _, _, _, 0, _, .cons a r, e => by
    simp at e
    subst e
    exact ⟨_, _, rfl, rfl, a⟩
  | _, _, _, _, i + 1, _, .cons a r, e => by
    obtain ⟨v, d, h1, h2, h3⟩ := AIts.at (i := i) r (by simpa using e)
    exact ⟨v, d, by simpa using h1, by simpa using h2, by simpa [ffAt] using h3⟩
theorem AIts.len {σ : St} {H : Hp} {Fs0 : Nat → List Addr} {Hx : Hp} : ∀ {vs : List V} {ds : List PyData} {FF : List (List Addr)} {kds : List Kd}, AIts C U σ H Fs0 Hx vs ds FF kds → vs.length = kds.length ∧ ds.length = kds.length ∧ FF.length = kds.length
  | _, _, _, _, .nil => ⟨rfl, rfl, rfl⟩
  | _, _, _, _, .cons a r => by
    obtain ⟨h1, h2, h3⟩ := AIts.len r
    exact ⟨by simp [h1], by simp [h2], by simp [h3]⟩
theorem ffAt_app {FF : List (List Addr)} {ds : List PyData} {i : Nat} {a : Addr} (h : a ∈ ffAt (FF ++ ds.map fun _ => []) i) : i < FF.length ∧ a ∈ ffAt FF i := by
  unfold ffAt at h ⊢
  rw [List.getD_eq_getElem?_getD] at h ⊢
  by_cases hl : i < FF.length
  · rw [List.getElem?_append_left hl] at h
    exact ⟨hl, h⟩
  · rw [List.getElem?_append_right (by omega), List.getElem?_map] at h
    cases q : ds[i - FF.length]? with
    | none =>
      rw [q] at h
      cases h
    | some d =>
      rw [q] at h
      cases h
/-- all but those at M are clean -/
def clBut : List Kd → Nat → List Nat → Bool
  | [], _, _ => true
  | .cl :: r, i, M => clBut r (i + 1) M
  | _ :: r, i, M => M.contains i && clBut r (i + 1) M
theorem clBut_at : ∀ {kds : List Kd} {i j : Nat} {M : List Nat} {kd : Kd}, clBut kds i M = true → kds[j]? = some kd → i + j ∉ M → kd = .cl
  | [], _, _, _, _, _, h, _ => by simp at h
  | k :: r, i, 0, M, kd, h, hk, n => by
    simp at hk
    subst hk
    cases k with
    | cl => rfl
    | fr =>
      simp only [clBut, Bool.and_eq_true] at h
      exact absurd (by simpa using h.1) n
    | br b =>
      simp only [clBut, Bool.and_eq_true] at h
      exact absurd (by simpa using h.1) n
  | k :: r, i, j + 1, M, kd, h, hk, n => by
    have h2 : clBut r (i + 1) M = true := by
      cases k with
      | cl => exact h
      | fr =>
        simp only [clBut, Bool.and_eq_true] at h
        exact h.2
      | br b =>
        simp only [clBut, Bool.and_eq_true] at h
        exact h.2
    exact clBut_at (i := i + 1) (j := j) h2 (by simpa using hk) (by
      have : i + 1 + j = i + (j + 1) := by omega
      rw [this]
      exact n)
/-- f(..), nothing of the arguments is written -/
def callE (f : List PyData → Rs PyData) (dfl : List PyData) (fa : Env → Rs (List PyData)) : Env → Rs PyData := fun env => (fa env).bind fun ds e => match f (ds ++ dfl) with
  | .ok d _ => .ok d e
  | .exc c v _ => .exc c v e
  | .bad => .bad
/-- .. and what it gives is kept apart from them: numbers, texts -/
def callI (f : List PyData → Rs PyData) (dfl : List PyData) (fa : Env → Rs (List PyData)) : Env → Rs PyData := fun env => (callE f dfl fa env).bind fun d e => if isImm d = true then .ok d e else .bad
/-- f(.., x, ..): slot i's list or dict is the p-th argument, which f writes -/
def callM (p i : Nat) (f : List PyData → Rs PyData) (dfl : List PyData) (fa : Env → Rs (List PyData)) : Env → Rs PyData := fun env => (fa env).bind fun ds e => match f (ds ++ dfl) with
  | .ok d e' => .ok d (e.set i (e'.getD p none))
  | _ => .bad
theorem EnvR.still {K : PySem.W.Frag} {H0 : Hp} {M U : List Nat} {σ : St} {H H' : Hp} {env : Env} {Fs : Nat → List Addr} (R : EnvR K H0 M U σ H env Fs) (hk : Keep (fun _ => False) H H') (hd : ∀ a, H' a = none → H a = none) : EnvR K H0 M U σ H' env Fs :=
  R.keepW hk (fun _ z => z.elim) (fun _ _ _ z => z) hd fun _ _ z => z.elim
/-- dicts that no slot of U holds alone may be locked -/
theorem EnvR.lock {K : PySem.W.Frag} {H0 : Hp} {M U : List Nat} {σ : L2.St} {H H' : Hp} {env : Env} {Fs : Nat → List Addr} (R : EnvR K H0 M U σ H env Fs) (hk : KF H H') (hd : ∀ a, H' a = none → H a = none) (hr : ∀ i ∈ U, ∀ a, σ[i]? = some (some (.ref a)) → H' a = H a) : EnvR K H0 M U σ H' env Fs :=
  ⟨R.len, fun i d e => by
    obtain ⟨v, h1, h2⟩ := R.rep i d e
    exact ⟨v, h1, h2.kf hk⟩, fun i hi => by
    obtain ⟨d, a, G, h1, h2, h3, h4, h5, h6, h7, h8⟩ := R.uni i hi
    refine ⟨d, a, G, h1, h2, h3, h4, h5, h6, ?_, h8⟩
    unfold MutA
    rw [hr i hi a h3]
    exact h7, R.nil, fun a e => R.dom a (hd a e), fun e => (R.kp e).trans hk⟩
/-- the callee's exceptions -/
theorem exc_call {σ : St} {H : Hp} {env : Env} {Fs : Nat → List Addr} {c : Str} {x : PyData} (R : EnvR C.K C.H0 C.M U σ H env Fs) (h : EC C c x env) : ∀ cls d H', KF H H' → (∀ a, H' a = none → H a = none) → ExcRep C.K H' c x cls d → WE C.W σ cls d H' :=
  fun cls d H' hk hd hx => h cls d σ H' Fs hx ((R.weak (U' := []) fun _ z => nomatch z).lock hk hd fun _ z => nomatch z)
theorem args_of {σ : St} {H H1 : Hp} {Fs : Nat → List Addr} {vs dvs : List V} {ds dfl : List PyData} {FF : List (List Addr)} (as : AIts C U σ H Fs H1 vs ds FF kds) (hd : RepE C.K H dvs dfl (dfl.map fun _ => [])) : ArgsR C.K H [] (vs ++ dvs) (ds ++ dfl) (FF ++ dfl.map fun _ => []) :=
  ⟨as.repE.1.append hd, fun _ z => nomatch z⟩
theorem de_call {x : Str} {p : Pos} {n m : Nat} {dfl : List PyData} {rk : Kd} {f : List PyData → Rs PyData} (c : CalD C x n m dfl [] rk f) (hg : ∀ z, Gl (C.X z) x) (hdb : (x == ("__debug__" : Str)) = false) (ha : DA C U Rv (e :: es) fa U1 kds) (hm : kds.length = m) (hk : allCl kds = true) (hrk : ∀ i, rk ≠ .br i)
    (he : ∀ z, starEach (e :: es) (C.X z).env = (false, eval e (C.X z).env) :: starEach es (C.X z).env := by intro _; rfl) (hpl : ∀ z, (backTo pos (starEach es (C.X z).env)).any (·.1) = false := by intro _; rfl) :
    DE C U Rv (.Call (.Name x p) (e :: es) [] pos) (callE f dfl fa) U1 rk := by
  obtain ⟨h1, t, hp, hs⟩ := ha
  obtain ⟨dvs, hdv, hz⟩ := c.ex
  refine ⟨h1, tCallSD (spD C.K n [] rk f) dvs (WE C.W) t, fun z => ?_, fun σ H env Fs Q R hw => hs σ H env Fs _ R ?_⟩
  · obtain ⟨k, fa', fd, ps, dd, q1, q2, q3, q4, q5, q6⟩ := hz z
    exact DV.pe_callG q1 q2 (hg z) q3 q4 q5 q6 (passAt (C.tk z)) (hp z) hdb (he z) (hpl z)
  · unfold callE at hw
    rw [wp_bind] at hw
    refine wp_mono hw fun ds e1 hw vs H1 Fs1 FF p as => ?_
    have hl := as.len
    have A := args_of as (hdv H1)
    refine ⟨ds ++ dfl, FF ++ dfl.map fun _ => [], by rw [A.rep.length.1, List.length_append, hl.2.1, hm, c.nm], A, ?_⟩
    have cl := as.clean hk
    have inF : ∀ {j : Nat} {a : Addr}, a ∈ ffAt (FF ++ dfl.map fun _ => []) j → a ∈ flatF FF := fun {j a} h => by
      obtain ⟨hj, h⟩ := ffAt_app h
      have hf : ∀ (FF : List (List Addr)) (j : Nat), a ∈ ffAt FF j → a ∈ flatF FF := fun FF => by
        induction FF with
        | nil =>
          intro j h
          simp [ffAt] at h
        | cons F r ih =>
          intro j h
          cases j with
          | zero => exact List.mem_append_left _ (by simpa [ffAt] using h)
          | succ j => exact List.mem_append_right _ (ih j (by simpa [ffAt] using h))
      exact hf FF j h
    cases q : f (ds ++ dfl) with
    | bad =>
      rw [q] at hw
      exact (show False from hw).elim
    | exc c' v e2 =>
      rw [q] at hw
      exact ⟨rfl, exc_call p.env hw⟩
    | ok d e2 =>
      rw [q] at hw
      refine fun v H' F Fm P => ?_
      have kp : Keep (fun _ => False) H1 H' := P.keep.mono fun a ⟨p, h, _⟩ => nomatch h
      have R' := p.env.still kp P.dom
      have clF : Clean U1 σ F := fun i hi a ea m => by
        rcases P.fgrow a m with ⟨j, hj⟩ | z
        · exact cl i hi a ea (inF hj)
        · obtain ⟨_, _, _, _, _, _, _, q, _⟩ := p.env.root hi ea
          exact q.ne z
      refine (show ∀ v H' Fs' F, EPost C U Rv σ H Fs U1 rk d e1 v H' Fs' F → Q v H' from hw) v H' Fs1 F ⟨R', p.keep.trans kp fun _ _ z => z.elim, fun a e => p.dom a (P.dom a e), p.grow, P.rep, fun a m => ?_, ?_, fun e a ha => ?_⟩
      · rcases P.fgrow a m with ⟨j, hj⟩ | z
        · exact as.repL.2 a (inF hj)
        · exact .inr (p.dom a z)
      · cases rk with
        | cl => exact clF
        | fr =>
          obtain ⟨a, G, e1, e2, z1, z2, z3, z4, _⟩ := P.new rfl
          subst e2
          exact ⟨a, G, e1, rfl, z1, z2, fun j m => p.env.trk m z3, z4, p.env.dom a z3, clF.sub fun b m => List.mem_cons_of_mem _ m⟩
        | br i => exact absurd rfl (hrk i)
      · obtain ⟨b, G, e1, _, _, _, z3, _⟩ := P.new e
        rw [ha] at e1
        cases e1
        exact .inl (p.dom a z3)
theorem de_callI {x : Str} {p : Pos} {n m : Nat} {dfl : List PyData} {rk : Kd} {f : List PyData → Rs PyData} (c : CalD C x n m dfl [] rk f) (hg : ∀ z, Gl (C.X z) x) (hdb : (x == ("__debug__" : Str)) = false) (ha : DA C U Rv (e :: es) fa U1 kds) (hm : kds.length = m)
    (he : ∀ z, starEach (e :: es) (C.X z).env = (false, eval e (C.X z).env) :: starEach es (C.X z).env := by intro _; rfl) (hpl : ∀ z, (backTo pos (starEach es (C.X z).env)).any (·.1) = false := by intro _; rfl) :
    DE C U Rv (.Call (.Name x p) (e :: es) [] pos) (callI f dfl fa) U1 .cl := by
  obtain ⟨h1, t, hp, hs⟩ := ha
  obtain ⟨dvs, hdv, hz⟩ := c.ex
  refine ⟨h1, tCallSD (spD C.K n [] rk f) dvs (WE C.W) t, fun z => ?_, fun σ H env Fs Q R hw => hs σ H env Fs _ R ?_⟩
  · obtain ⟨k, fa', fd, ps, dd, q1, q2, q3, q4, q5, q6⟩ := hz z
    exact DV.pe_callG q1 q2 (hg z) q3 q4 q5 q6 (passAt (C.tk z)) (hp z) hdb (he z) (hpl z)
  · unfold callI callE at hw
    rw [wp_bind, wp_bind] at hw
    refine wp_mono hw fun ds e1 hw vs H1 Fs1 FF p as => ?_
    have hl := as.len
    have A := args_of as (hdv H1)
    refine ⟨ds ++ dfl, FF ++ dfl.map fun _ => [], by rw [A.rep.length.1, List.length_append, hl.2.1, hm, c.nm], A, ?_⟩
    cases q : f (ds ++ dfl) with
    | bad =>
      rw [q] at hw
      exact (show False from hw).elim
    | exc c' v e2 =>
      rw [q] at hw
      exact ⟨rfl, exc_call p.env hw⟩
    | ok d e2 =>
      rw [q] at hw
      refine fun v H' F Fm P => ?_
      have hw : (if isImm d = true then Rs.ok d e1 else Rs.bad).wp (fun d env' => ∀ v H' Fs' F, EPost C U Rv σ H Fs U1 .cl d env' v H' Fs' F → Q v H') (EC C) := hw
      split at hw
      · rename_i hi
        have kp : Keep (fun _ => False) H1 H' := P.keep.mono fun a ⟨p, h, _⟩ => nomatch h
        have R' := p.env.still kp P.dom
        have hF := P.rep.imm hi
        subst hF
        exact hw v H' Fs1 [] ⟨R', p.keep.trans kp fun _ _ z => z.elim, fun a e => p.dom a (P.dom a e), p.grow, P.rep, (fun a m => nomatch m), Clean.nil, fun e => nomatch e⟩
      · exact (show False from hw).elim
/-- a slot of U is written: it still alone holds its list or dict -/
theorem EnvR.own {K : PySem.W.Frag} {H0 : Hp} {M U : List Nat} {σ : St} {H H' : Hp} {env : Env} {Fs : Nat → List Addr} {i : Nat} {a : Addr} {d : PyData} {G : List Addr} (R : EnvR K H0 M U σ H env Fs) (hi : i ∈ U) (ea : σ[i]? = some (some (.ref a)))
    (hk : Keep (fun b => b = a) H H') (hd : ∀ b, H' b = none → H b = none) (r : Rep K H' (.ref a) d (a :: G)) (hc : isC d = true) (nG : a ∉ G) (cG : Clean U σ G) (m : MutA H' a) : EnvR K H0 M U σ H' (env.set i (some d)) (setF Fs i (a :: G)) := by
  obtain ⟨d0, G0, q1, q2, q3, q4, q5, q6, q7⟩ := R.root hi ea
  have hw : ∀ b, b = a → MutA H b := fun b e => by
    rw [e]
    exact q6
  have hlen : i < env.length := (List.getElem?_eq_some_iff.mp q1).1
  refine ⟨by rw [List.length_set]; exact R.len, fun j d' e => ?_, fun j hj => ?_, fun j h => ?_, fun b e => R.dom b (hd b e), fun e => (R.kp e).keep hk fun b z => ?_⟩
  · by_cases z : i = j
    · subst z
      rw [List.getElem?_set_self hlen] at e
      cases e
      exact ⟨_, ea, by rw [setF_same]; exact r⟩
    · rw [List.getElem?_set_ne z] at e
      obtain ⟨v, h1, h2⟩ := R.rep j d' e
      refine ⟨v, h1, ?_⟩
      rw [setF_ne (Ne.symm z)]
      exact h2.keep hk hw fun b m e => q5 j (Ne.symm z) (by rw [← e]; exact m)
  · by_cases z : i = j
    · subst z
      refine ⟨d, a, G, List.getElem?_set_self hlen, hc, ea, setF_same, nG, fun k hk => ?_, m, q7⟩
      rw [setF_ne hk]
      exact q5 k hk
    · obtain ⟨d', b, G', h1, h2, h3, h4, h5, h6, h7, h8⟩ := R.uni j hj
      have nb : b ≠ a := fun e => q5 j (Ne.symm z) (by rw [h4, e]; exact List.mem_cons_self)
      refine ⟨d', b, G', by rw [List.getElem?_set_ne z]; exact h1, h2, h3, by rw [setF_ne (Ne.symm z)]; exact h4, h5, fun k hk => ?_, ?_, h8⟩
      · by_cases y : k = i
        · subst y
          rw [setF_same]
          intro mm
          rcases List.mem_cons.mp mm with e | mm
          · exact nb e
          · exact cG j hj b h3 mm
        · rw [setF_ne y]
          exact h6 k hk
      · rcases h7 with ⟨x, e⟩ | ⟨x, e⟩ | ⟨x, e⟩
        · exact .inl ⟨x, hk _ _ e nb⟩
        · exact .inr (.inl ⟨x, hk _ _ e nb⟩)
        · exact .inr (.inr ⟨x, hk _ _ e nb⟩)
  · by_cases z : j = i
    · subst z
      exact absurd (List.getElem?_set_self hlen) (h d)
    · rw [setF_ne z]
      exact R.nil j fun d' e => h d' (by rw [List.getElem?_set_ne (Ne.symm z)]; exact e)
  · subst z
    rcases q7 with q | q
    · exact q
    · rw [e] at q
      cases q
end
end DV

set_option Elab.async false
set_option linter.all false
set_option maxRecDepth 100000
set_option maxHeartbeats 2000000
namespace DV
open PySem L2 PySem.Spec
open PyProof.Rows hiding St

/-! ### what writes a list or dict that a slot alone holds -/
structure MRes (K : PySem.W.Frag) (H H' : Hp) (a : Addr) (v' : V) (res : PyData) (Fv : List Addr) (d' : PyData) (G' : List Addr) (P : Addr → Prop) : Prop where
  keep : Keep (fun b => b = a) H H'
  dom : ∀ b, H' b = none → H b = none
  vrep : Rep K H' v' res Fv
  vin : ∀ b ∈ Fv, P b
  orep : Rep K H' (.ref a) d' (a :: G')
  oin : ∀ b ∈ G', P b ∨ H b = none
  isc : isC d' = true
  mu : MutA H' a
theorem upd_dom {H : Hp} {a : Addr} {o : HO} : ∀ b, upd H a o b = none → H b = none := fun b e => by
  by_cases z : b = a
  · subst z
    rw [upd_same] at e
    cases e
  · rw [upd_ne z] at e
    exact e
/-- a list | a dict -/
def tyD (l : Bool) (d : PyData) : Bool := match d with
  | .list _ => l
  | .dict [(.none, .tuple _)] => false
  | .dict _ => !l
  | _ => false
def tyN (l : Bool) : String := if l = true then "list" else "dict"
def tyE (l : Bool) (i : Nat) (env : Env) : Bool := match env[i]? with
  | some (some d) => tyD l d
  | _ => false
theorem tyV_of {K : PySem.W.Frag} {H : Hp} {l : Bool} {a : Addr} {d : PyData} {F : List Addr} (r : Rep K H (.ref a) d F) (m : MutA H a) (h : tyD l d = true) : tyV K (tyN l) (.ref a) H := by
  cases d with
  | list xs =>
    have h : l = true := h
    subst h
    obtain ⟨b, vs, G, e, q, _⟩ := r.sqL
    cases e
    exact .inl ⟨rfl, vs, q⟩
  | dict xs =>
    cases l with
    | true =>
      unfold tyD at h
      split at h
      all_goals simp_all
    | false =>
      refine .inr (.inr (.inl ⟨rfl, ?_⟩))
      rcases m with ⟨x, e⟩ | q
      · exfalso
        cases r with
        | dctK r _ => rcases r with r | ⟨o, r⟩ <;> rw [e] at r <;> cases r
        | con r => simp [tyD] at h
        | dctT r _ => rcases r with r | ⟨o, r⟩ <;> rw [e] at r <;> cases r
      · exact q
  | _ => cases h
def putE (l : Bool) (i : Nat) (g : PyData → List PyData → Option (PyData × PyData)) (fa : Env → Rs (List PyData)) : Env → Rs PyData := fun env => if tyE l i env = true then (fa env).bind fun ds e => match e[i]? with
  | some (some d) => match g d ds with
    | some (res, d') => .ok res (e.set i (some d'))
    | none => .bad
  | _ => .bad else .bad
/-- a relation that writes the object at a, of data -/
def OKM (K : PySem.W.Frag) (r : V → List V → Hp → VK → Prop) (g : PyData → List PyData → Option (PyData × PyData)) : Prop :=
  ∀ (H : Hp) (a : Addr) (d : PyData) (G : List Addr) (vs : List V) (ds : List PyData) (Fa : List Addr) (res d' : PyData) (Q : VK), Rep K H (.ref a) d (a :: G) → MutA H a → a ∉ G → RepL K H vs ds Fa → a ∉ Fa → g d ds = some (res, d') →
    (∀ v' H' Fv G', MRes K H H' a v' res Fv d' G' (fun b => b ∈ G ∨ b ∈ Fa) → Q v' H') → r (.ref a) vs H Q
section
variable {C : Ct} {U Rv U1 : List Nat} {es : List Expr} {e : Expr} {fa : Env → Rs (List PyData)} {kds : List Kd} {pos : Pos} {i : Nat}
/-- the step itself -/
theorem put_step {σ : L2.St} {H H1 : Hp} {Fs Fs1 : Nat → List Addr} {e1 : Env} {vs : List V} {ds : List PyData} {FF : List (List Addr)} {r : V → List V → Hp → VK → Prop} {g : PyData → List PyData → Option (PyData × PyData)} {Q : VK} {a : Addr} {d : PyData}
    (ok : OKM C.K r g) (hi : i ∈ U1) (hU : ∀ j ∈ U1, j ∈ U) (hR : i ∉ Rv) (p : TPost C U Rv σ H Fs U1 e1 H1 Fs1) (as : AIts C U1 σ H1 Fs H vs ds FF kds) (hk : allCl kds = true) (ea : σ[i]? = some (some (.ref a))) (ed : e1[i]? = some (some d))
    {res d' : PyData} (hg : g d ds = some (res, d')) (k : ∀ v H' Fs' F, EPost C U Rv σ H Fs U1 .cl res (e1.set i (some d')) v H' Fs' F → Q v H') : r (.ref a) vs H1 Q := by
  obtain ⟨d0, G, q1, q2, q3, q4, q5, q6, q7⟩ := p.env.root hi ea
  rw [ed] at q1
  cases q1
  obtain ⟨l, gr⟩ := as.repL
  have cl := as.clean hk
  obtain ⟨v0, ev0, r0⟩ := p.env.rep i d ed
  rw [ea] at ev0
  cases ev0
  rw [q3] at r0
  refine ok H1 a d G vs ds (flatF FF) res d' Q r0 q6 q4 l (cl i hi a ea) hg fun v' H' Fv G' M => ?_
  have inC : ∀ b, (b ∈ G ∨ b ∈ flatF FF) → (∀ j ∈ U1, ∀ c, σ[j]? = some (some (.ref c)) → c ≠ b) := fun b hb j hj c ec e => by
    subst e
    rcases hb with hb | hb
    · by_cases z : j = i
      · subst z
        rw [ea] at ec
        cases ec
        exact q4 hb
      · obtain ⟨_, G2, _, _, w3, _, w5, _, _⟩ := p.env.root hj ec
        exact w5 i (fun y => z y.symm) (by rw [q3]; exact List.mem_cons_of_mem _ hb)
    · exact cl j hj c ec hb
  have clF : Clean U1 σ Fv := fun j hj c ec m => inC c (M.vin c m) j hj c ec rfl
  have clG : Clean U1 σ G' := fun j hj c ec m => by
    rcases M.oin c m with q | q
    · exact inC c q j hj c ec rfl
    · obtain ⟨_, _, _, _, _, _, _, w6, _⟩ := p.env.root hj ec
      exact w6.ne q
  have R' := p.env.own hi ea M.keep M.dom M.orep M.isc (fun m => clG i hi a ea m) clG M.mu
  have grB : ∀ b, (b ∈ G ∨ b ∈ flatF FF) → (∃ k, b ∈ Fs k) ∨ H b = none := fun b hb => by
    rcases hb with hb | hb
    · exact p.grow i b (by rw [q3]; exact List.mem_cons_of_mem _ hb)
    · exact gr b hb
  refine k v' H' _ Fv ⟨R', p.keep.trans M.keep fun b _ z => ⟨i, hU i hi, hR, by rw [z]; exact ea⟩, fun b e => p.dom b (M.dom b e), fun j b m => ?_, M.vrep, fun b m => grB b (M.vin b m), clF, fun z => nomatch z⟩
  by_cases z : j = i
  · subst z
    rw [setF_same] at m
    rcases List.mem_cons.mp m with m | m
    · rw [m]
      exact p.grow j a (by rw [q3]; exact List.mem_cons_self)
    · rcases M.oin b m with q | q
      · exact grB b q
      · exact .inr (p.dom b q)
  · rw [setF_ne z] at m
    exact p.grow j b m
theorem put_go {σ : L2.St} {H : Hp} {Fs : Nat → List Addr} {env : Env} {r : V → List V → Hp → VK → Prop} {g : PyData → List PyData → Option (PyData × PyData)} {Q : VK} {l : Bool} {t : TA} (ok : OKM C.K r g) (hU : ∀ j ∈ U1, j ∈ U) (hi : i ∈ U1) (hR : i ∉ Rv) (hk : allCl kds = true) (R : EnvR C.K C.H0 C.M U σ H env Fs)
    (hs : ∀ (Q : List V → Hp → Prop), (fa env).wp (fun ds env' => ∀ vs H' Fs' FF, TPost C U Rv σ H Fs U1 env' H' Fs' → AIts C U1 σ H' Fs H vs ds FF kds → Q vs H') (EC C) → t σ H Q)
    (hw : (putE l i g fa env).wp (fun d env' => ∀ v H' Fs' F, EPost C U Rv σ H Fs U1 .cl d env' v H' Fs' F → Q v H') (EC C)) : tVar i σ H fun x H1 => tyV C.K (tyN l) x H1 ∧ t σ H1 fun xs H2 => r x xs H2 Q := by
  unfold putE at hw
  split at hw
  · rename_i hty
    obtain ⟨d0, a, G0, q1, q2, q3, q4, q5, q6, q7, q8⟩ := R.uni i (hU i hi)
    obtain ⟨v0, ev0, r0⟩ := R.rep i d0 q1
    rw [q3] at ev0
    cases ev0
    unfold tyE at hty
    rw [q1] at hty
    refine ⟨_, q3, tyV_of r0 q7 hty, hs _ ?_⟩
    rw [wp_bind] at hw
    refine wp_mono hw fun ds e1 hw vs H1 Fs1 FF p as => ?_
    split at hw
    · rename_i d ed
      split at hw
      · rename_i res d' hg
        exact put_step ok hi hU hR p as hk q3 ed hg hw
      · exact (show False from hw).elim
    · exact (show False from hw).elim
  · exact (show False from hw).elim
/-- o.m(e, ..), o a slot of U; l: a list | a dict -/
theorem de_put {x : Str} {p apos : Pos} {l : Bool} {id : String} {m : Str} {r : V → List V → Hp → VK → Prop} {g : PyData → List PyData → Option (PyData × PyData)} (hN : ∀ z, (C.X z).N[i]? = some x) (hv : ∀ z, Vis (C.X z).env.scope x) (hd : (x == ("__debug__" : Str)) = false) (hcd : (x == ("__classdict__" : Str)) = false)
    (pa : PlainAttrs (tyN l)) (slot : Slot (tyN l) m id) (hty : typeOf (.builtin id) = pure (.type "method_descriptor")) (hm : ∀ z, MtR (C.X z) id r) (ok : OKM C.K r g)
    (ha : DA C U Rv (e :: es) fa U1 kds) (hi : i ∈ U1) (hR : i ∉ Rv) (hk : allCl kds = true)
    (hbase : ∀ z, attributeBase (.Name x p) m (C.X z).env (eval (.Name x p) (C.X z).env) = eval (.Name x p) (C.X z).env := by intro _; rfl)
    (hfew : ∀ z, ((backTo pos (starEach (e :: es) (C.X z).env)).all (fun x => !x.1) && (backToKw pos (keywordEach [] (C.X z).env)).all (fun x => x.1.isSome)
      && decide ((e :: es).length + ([] : List Keyword).length + (if ([] : List Keyword).isEmpty then 0 else 1) < 30)) = true := by intro _; rfl)
    (hline : (apos.endLine == pos.line) = true := by rfl) (hs : ∀ z, starEach (e :: es) (C.X z).env = (false, eval e (C.X z).env) :: starEach es (C.X z).env := by intro _; rfl) (hplain : ∀ z, (backTo pos (starEach es (C.X z).env)).any (·.1) = false := by intro _; rfl) :
    DE C U Rv (.Call (.Attribute (.Name x p) m apos) (e :: es) [] pos) (putE l i g fa) U1 .cl := by
  obtain ⟨h1, t, hp, hs'⟩ := ha
  refine ⟨h1, tBM C.K (tyN l) r (tVar i) t, fun z => ?_, fun σ H env Fs Q R hw => put_go ok h1 hi hR hk R (hs' σ H env Fs · R) hw⟩
  have := pe_bm pa slot hty (hm z) (pe_var (hN z) (hv z) hd hcd) (hp z) (hbase z) (hfew z) hline (hs z) (hplain z)
  rw [C.hK z] at this
  exact this
theorem de_put0 {x : Str} {p apos : Pos} {l : Bool} {id : String} {m : Str} {r : V → List V → Hp → VK → Prop} {g : PyData → List PyData → Option (PyData × PyData)} (hN : ∀ z, (C.X z).N[i]? = some x) (hv : ∀ z, Vis (C.X z).env.scope x) (hd : (x == ("__debug__" : Str)) = false) (hcd : (x == ("__classdict__" : Str)) = false)
    (pa : PlainAttrs (tyN l)) (slot : Slot (tyN l) m id) (hty : typeOf (.builtin id) = pure (.type "method_descriptor")) (hm : ∀ z, MtR (C.X z) id r) (ok : OKM C.K r g) (hi : i ∈ U) (hR : i ∉ Rv)
    (hbase : ∀ z, attributeBase (.Name x p) m (C.X z).env (eval (.Name x p) (C.X z).env) = eval (.Name x p) (C.X z).env := by intro _; rfl) (hline : (apos.endLine == pos.line) = true := by rfl) :
    DE C U Rv (.Call (.Attribute (.Name x p) m apos) [] [] pos) (putE l i g nilA) U .cl := by
  refine ⟨fun _ h => h, tBM0 C.K (tyN l) r (tVar i), fun z => ?_, fun σ H env Fs Q R hw => put_go (t := tNil) (kds := []) (fa := nilA) ok (fun _ h => h) hi hR rfl R (fun Q h => (show ∀ vs H' Fs' FF, TPost C U Rv σ H Fs U env H' Fs' → AIts C U σ H' Fs H vs [] FF [] → Q vs H' from h) [] H Fs [] (TPost.refl R) .nil) hw⟩
  have := pe_bm0 pa slot hty (hm z) (pe_var (hN z) (hv z) hd hcd) (hbase z) hline
  rw [C.hK z] at this
  exact this
end
end DV

set_option Elab.async false
set_option linter.all false
set_option maxRecDepth 100000
set_option maxHeartbeats 2000000
namespace DV
open PySem L2 PySem.Spec
open PyProof.Rows hiding St

/-! ### dicts as data -/
def kD : PyData → Option Key
  | .int i => some (.inl i)
  | .str x => some (.inr x)
  | _ => none
def kDs : List PyData → Option (List Key)
  | [] => some []
  | d :: r => match kD d, kDs r with
    | some k, some l => some (k :: l)
    | _, _ => none
def tD : PyData → Option (List Key)
  | .tuple ds => kDs ds
  | _ => none
theorem kD_key (k : Key) : kD (keyD k) = some k := by cases k <;> rfl
theorem tD_key (k : List Key) : tD (keyT k) = some k := by
  unfold keyT tD
  simp only
  induction k with
  | nil => rfl
  | cons a r ih => simp only [List.map_cons, kDs, kD_key, ih]
/-- what stands at a key -/
def look {κ : Type} [DecidableEq κ] (dec : PyData → Option κ) (kvs : List (PyData × PyData)) (k : κ) : Option PyData := (kvs.find? fun p => decide (dec p.1 = some k)).map (·.2)
def put {κ : Type} [DecidableEq κ] (dec : PyData → Option κ) (kvs : List (PyData × PyData)) (k : κ) (kd v : PyData) : List (PyData × PyData) :=
  if (kvs.any fun p => decide (dec p.1 = some k)) = true then kvs.map fun p => if dec p.1 = some k then (p.1, v) else p else kvs ++ [(kd, v)]
def drp {κ : Type} [DecidableEq κ] (dec : PyData → Option κ) (kvs : List (PyData × PyData)) (k : κ) : List (PyData × PyData) := kvs.filter fun p => decide (dec p.1 ≠ some k)
section
variable {K : PySem.W.Frag} {H : Hp} {κ : Type} [DecidableEq κ] {enc : κ → PyData} {dec : PyData → Option κ}
theorem look_rep (hk : ∀ k, dec (enc k) = some k) {k : κ} : ∀ {kvs : List (κ × V)} {ds : List PyData} {F : List Addr}, RepL K H (kvs.map (·.2)) ds F →
    (∀ d, look dec ((kvs.map fun p => enc p.1).zip ds) k = some d → ∃ v G, valV kvs k = some v ∧ Rep K H v d G ∧ ∀ a ∈ G, a ∈ F) ∧ (look dec ((kvs.map fun p => enc p.1).zip ds) k = none → valV kvs k = none)
  | [], _, _, l => by
    cases l
    exact ⟨fun d h => (nomatch h), fun _ => rfl⟩
  | p :: kvs, _, _, l => by
    cases l with
    | @cons v vs d ds F G r l =>
      obtain ⟨ih1, ih2⟩ := look_rep hk (kvs := kvs) l
      have e : look dec ((((p :: kvs).map fun p => enc p.1)).zip (d :: ds)) k = if p.1 = k then some d else look dec ((kvs.map fun p => enc p.1).zip ds) k := by
        unfold look
        rw [List.map_cons, List.zip_cons_cons, List.find?_cons]
        by_cases z : p.1 = k
        · rw [if_pos z]
          simp [hk, z]
        · rw [if_neg z]
          have : decide (dec (enc p.1, d).1 = some k) = false := by simp [hk, z]
          rw [this]
      rw [e]
      by_cases z : p.1 = k
      · rw [if_pos z]
        refine ⟨fun d' h => ?_, fun h => (nomatch h)⟩
        cases h
        exact ⟨_, F, valV_pos z, r, fun a m => List.mem_append_left _ m⟩
      · rw [if_neg z, valV_neg z]
        refine ⟨fun d' h => ?_, ih2⟩
        obtain ⟨v', G', h1, h2, h3⟩ := ih1 d' h
        exact ⟨v', G', h1, h2, fun a m => List.mem_append_right _ (h3 a m)⟩
theorem any_rep (hk : ∀ k, dec (enc k) = some k) {k : κ} : ∀ {kvs : List (κ × V)} {ds : List PyData}, kvs.length = ds.length → ((kvs.map fun p => enc p.1).zip ds).any (fun p => decide (dec p.1 = some k)) = kvs.any fun kv => decide (kv.1 = k)
  | [], _, _ => rfl
  | p :: kvs, [], h => by simp at h
  | p :: kvs, d :: ds, h => by
    rw [List.map_cons, List.zip_cons_cons, List.any_cons, List.any_cons, any_rep hk (by simpa using h)]
    simp [hk]
theorem put_rep (hk : ∀ k, dec (enc k) = some k) {k : κ} {v : V} {d : PyData} {Fd : List Addr} (r : Rep K H v d Fd) {kvs : List (κ × V)} {ds : List PyData} {F : List Addr} (l : RepL K H (kvs.map (·.2)) ds F) :
    ∃ ds' F', put dec ((kvs.map fun p => enc p.1).zip ds) k (enc k) d = ((putK kvs k v).map fun p => enc p.1).zip ds' ∧ RepL K H ((putK kvs k v).map (·.2)) ds' F' ∧ ∀ a ∈ F', a ∈ F ∨ a ∈ Fd := by
  have hl : kvs.length = ds.length := by
    have := l.length
    rwa [List.length_map] at this
  unfold put putK
  rw [any_rep hk hl]
  by_cases ha : (kvs.any fun kv => decide (kv.1 = k)) = true
  · rw [if_pos ha, if_pos ha]
    clear ha
    induction kvs generalizing ds F with
    | nil =>
      cases l
      exact ⟨[], [], rfl, .nil, fun _ m => nomatch m⟩
    | cons p kvs ih =>
      cases l with
      | @cons _ _ d0 ds F G r0 l =>
        obtain ⟨ds', F', h1, h2, h3⟩ := ih l (by simpa using hl)
        by_cases z : p.1 = k
        · refine ⟨d :: ds', Fd ++ F', ?_, ?_, fun a m => ?_⟩
          · rw [List.map_cons, List.zip_cons_cons, List.map_cons, h1]
            simp [hk, z]
          · simp only [List.map_cons, z, if_true]
            exact .cons r h2
          · rcases List.mem_append.mp m with m | m
            · exact .inr m
            · exact (h3 a m).imp (List.mem_append_right _) id
        · refine ⟨d0 :: ds', F ++ F', ?_, ?_, fun a m => ?_⟩
          · rw [List.map_cons, List.zip_cons_cons, List.map_cons, h1]
            simp [hk, z]
          · simp only [List.map_cons, z, if_false]
            exact .cons r0 h2
          · rcases List.mem_append.mp m with m | m
            · exact .inl (List.mem_append_left _ m)
            · exact (h3 a m).imp (List.mem_append_right _) id
  · rw [if_neg ha, if_neg ha]
    refine ⟨ds ++ [d], F ++ (Fd ++ []), ?_, ?_, fun a m => ?_⟩
    · rw [List.map_append, List.zip_append (by rw [List.length_map]; exact hl)]
      rfl
    · rw [List.map_append]
      exact l.append (.cons r .nil)
    · rw [List.append_nil] at m
      exact List.mem_append.mp m
theorem drp_rep (hk : ∀ k, dec (enc k) = some k) {k : κ} : ∀ {kvs : List (κ × V)} {ds : List PyData} {F : List Addr}, RepL K H (kvs.map (·.2)) ds F →
    ∃ ds' F', drp dec ((kvs.map fun p => enc p.1).zip ds) k = ((dropK kvs k).map fun p => enc p.1).zip ds' ∧ RepL K H ((dropK kvs k).map (·.2)) ds' F' ∧ ∀ a ∈ F', a ∈ F
  | [], _, _, l => by
    cases l
    exact ⟨[], [], rfl, .nil, fun _ m => m⟩
  | p :: kvs, _, _, l => by
    cases l with
    | @cons _ _ d0 ds F G r0 l =>
      obtain ⟨ds', F', h1, h2, h3⟩ := drp_rep hk (k := k) (kvs := kvs) l
      unfold drp dropK at h1 ⊢
      unfold dropK at h2
      by_cases z : p.1 = k
      · refine ⟨ds', F', ?_, ?_, fun a m => List.mem_append_right _ (h3 a m)⟩
        · rw [List.map_cons, List.zip_cons_cons, List.filter_cons_of_neg (by simp [hk, z]), h1, List.filter_cons_of_neg (by simp [z])]
        · rw [List.filter_cons_of_neg (by simp [z])]
          exact h2
      · refine ⟨d0 :: ds', F ++ F', ?_, ?_, fun a m => ?_⟩
        · rw [List.map_cons, List.zip_cons_cons, List.filter_cons_of_pos (by simp [hk, z]), h1, List.filter_cons_of_pos (by simp [z])]
          rfl
        · rw [List.filter_cons_of_pos (by simp [z])]
          exact .cons r0 h2
        · exact (List.mem_append.mp m).elim (List.mem_append_left _) fun m => List.mem_append_right _ (h3 a m)
end
/-- d[k], as it stands there; none: this is no such dict -/
def dget (d k : PyData) : Option (Option PyData) := match d with
  | .dict ((.none, .none) :: kvs) => (tD k).map fun kk => look tD kvs kk
  | .dict ((.none, _) :: _) => none
  | .dict kvs => (kD k).map fun kk => look kD kvs kk
  | _ => none
def dput (d k v : PyData) : Option PyData := match d with
  | .dict ((.none, .none) :: kvs) => (tD k).bind fun kk => if kvs.length < lim then some (.dict ((.none, .none) :: put tD kvs kk k v)) else none
  | .dict ((.none, _) :: _) => none
  | .dict kvs => (kD k).bind fun kk => if kvs.length < lim then some (.dict (put kD kvs kk k v)) else none
  | _ => none
section
variable {K : PySem.W.Frag} {H : Hp} {v w : V} {d k : PyData} {F G : List Addr}
theorem Rep.key (r : Rep K H w k G) {kk : Key} (h : kD k = some kk) : w = kV kk ∧ k = keyD kk := by
  cases r <;> simp only [kD, Option.some.injEq, reduceCtorEq] at h
  all_goals
    subst h
    exact ⟨rfl, rfl⟩
theorem kDs_rep : ∀ {vs : List V} {ds : List PyData} {F : List Addr} {ks : List Key}, RepL K H vs ds F → kDs ds = some ks → vs = ks.map kV ∧ ds = ks.map keyD
  | _, _, _, ks, .nil, h => by
    simp only [kDs, Option.some.injEq] at h
    subst h
    exact ⟨rfl, rfl⟩
  | _, _, _, ks, .cons (d := d) (ds := ds) r l, h => by
    unfold kDs at h
    cases e1 : kD d with
    | none =>
      rw [e1] at h
      cases h
    | some k =>
      cases e2 : kDs ds with
      | none =>
        rw [e1, e2] at h
        cases h
      | some l' =>
        rw [e1, e2] at h
        cases h
        obtain ⟨h1, h2⟩ := r.key e1
        obtain ⟨h3, h4⟩ := kDs_rep l e2
        rw [h1, h2, h3, h4]
        exact ⟨rfl, rfl⟩
theorem Rep.keyT (r : Rep K H w k G) {kk : List Key} (h : tD k = some kk) : ∃ b, w = .ref b ∧ H b = some (.tup (kk.map kV)) ∧ k = keyT kk := by
  cases r with
  | tup e l =>
    obtain ⟨h1, h2⟩ := kDs_rep l h
    subst h1
    subst h2
    exact ⟨_, rfl, e, rfl⟩
  | _ => cases h
theorem zip_key {κ : Type} {enc : κ → PyData} (hn : ∀ k, enc k ≠ .none) {kvs : List (κ × V)} {ds : List PyData} {q : PyData} {r : List (PyData × PyData)} (h : (kvs.map fun p => enc p.1).zip ds = (.none, q) :: r) : False := by
  cases kvs with
  | nil => cases h
  | cons p kvs =>
    cases ds with
    | nil => cases h
    | cons d ds =>
      simp only [List.map_cons, List.zip_cons_cons, List.cons.injEq, Prod.mk.injEq] at h
      exact hn _ h.1.1
theorem keyD_ne (k : Key) : keyD k ≠ .none := by cases k <;> exact fun z => nomatch z
/-- reading -/
theorem dget_rep (r : Rep K H v d F) (rk : Rep K H w k G) {o : Option PyData} (h : dget d k = some o) : ∃ a, v = .ref a ∧
    ((∃ e, o = some e ∧ ∃ u Fu, DGet H a w (some u) ∧ Rep K H u e Fu ∧ ∀ b ∈ Fu, b ∈ inner d F) ∨ (o = none ∧ DGet H a w none)) := by
  cases r with
  | @dctK a kvs ds F rd l =>
    have hin : inner (.dict ((kvs.map fun p => keyD p.1).zip ds)) (a :: F) = F := by
      unfold inner
      rw [if_pos (by rfl)]
      rfl
    rw [hin]
    refine ⟨a, rfl, ?_⟩
    unfold dget at h
    split at h
    · rename_i z
      simp only [PyData.dict.injEq] at z
      exact (zip_key keyD_ne z).elim
    · rename_i z
      simp only [PyData.dict.injEq] at z
      exact (zip_key keyD_ne z).elim
    · rename_i z
      simp only [PyData.dict.injEq] at z
      subst z
      cases e : kD k with
      | none =>
        rw [e] at h
        cases h
      | some kk =>
        rw [e] at h
        simp only [Option.map_some, Option.some.injEq] at h
        subst h
        obtain ⟨e1, _⟩ := rk.key e
        obtain ⟨h1, h2⟩ := look_rep kD_key (k := kk) l
        cases q : look kD ((kvs.map fun p => keyD p.1).zip ds) kk with
        | none => exact .inr ⟨rfl, .inl ⟨kvs, kk, rd, e1, (h2 q).symm⟩⟩
        | some e' =>
          obtain ⟨u, Fu, q1, q2, q3⟩ := h1 e' q
          exact .inl ⟨e', rfl, u, Fu, .inl ⟨kvs, kk, rd, e1, q1.symm⟩, q2, q3⟩
    · rename_i n _ _
      cases h
  | @dctT a kvs ds F rd l =>
    have hin : inner (.dict ((.none, .none) :: (kvs.map fun p => DV.keyT p.1).zip ds)) (a :: F) = F := by
      unfold inner
      rw [if_pos (by rfl)]
      rfl
    rw [hin]
    refine ⟨a, rfl, ?_⟩
    simp only [dget] at h
    cases e : tD k with
    | none =>
      rw [e] at h
      cases h
    | some kk =>
      rw [e] at h
      simp only [Option.map_some, Option.some.injEq] at h
      subst h
      obtain ⟨b, e1, e2, _⟩ := rk.keyT e
      obtain ⟨h1, h2⟩ := look_rep tD_key (k := kk) l
      cases q : look tD ((kvs.map fun p => DV.keyT p.1).zip ds) kk with
      | none => exact .inr ⟨rfl, .inr ⟨kvs, kk, b, rd, e1, e2, (h2 q).symm⟩⟩
      | some e' =>
        obtain ⟨u, Fu, q1, q2, q3⟩ := h1 e' q
        exact .inl ⟨e', rfl, u, Fu, .inr ⟨kvs, kk, b, rd, e1, e2, q1.symm⟩, q2, q3⟩
  | con r => simp [dget] at h
  | _ => cases h
theorem putK_len {κ : Type} [DecidableEq κ] {kvs : List (κ × V)} {ds : List PyData} {F : List Addr} (l : RepL K H (kvs.map (·.2)) ds F) (enc : κ → PyData) : ((kvs.map fun p => enc p.1).zip ds).length = kvs.length := by
  have := l.length
  rw [List.length_map] at this
  rw [List.length_zip, List.length_map, ← this, Nat.min_self]
/-- writing -/
theorem dput_rep {a : Addr} {G0 : List Addr} (r : Rep K H (.ref a) d (a :: G0)) (m : MutA H a) (na : a ∉ G0) (rk : Rep K H w k G) {x : V} {e : PyData} {Fe : List Addr} (re : Rep K H x e Fe) (ne : a ∉ Fe) {d' : PyData} (h : dput d k e = some d') :
    ∃ H' G', DPut H a w x H' ∧ Rep K H' (.ref a) d' (a :: G') ∧ (∀ b ∈ G', b ∈ G0 ∨ b ∈ Fe) ∧ isC d' = true ∧ MutA H' a ∧ Keep (fun b => b = a) H H' ∧ ∀ b, H' b = none → H b = none := by
  have wm : ∀ b, b = a → MutA H b := fun b e => by rw [e]; exact m
  cases r with
  | tup _ _ => cases h
  | lst _ _ => cases h
  | @dctK _ kvs ds _ rd l =>
    have rd : H a = some (.dK kvs) := by
      rcases rd with q | ⟨o, q⟩
      · exact q
      · rcases m with ⟨_, z⟩ | ⟨_, z⟩ | ⟨_, z⟩ <;> rw [q] at z <;> cases z
    unfold dput at h
    split at h
    · rename_i z
      simp only [PyData.dict.injEq] at z
      exact (zip_key keyD_ne z).elim
    · rename_i z
      simp only [PyData.dict.injEq] at z
      exact (zip_key keyD_ne z).elim
    · rename_i z
      simp only [PyData.dict.injEq] at z
      subst z
      cases e1 : kD k with
      | none =>
        rw [e1] at h
        cases h
      | some kk =>
        rw [e1] at h
        simp only [Option.bind_some] at h
        split at h
        · rename_i hl
          cases h
          obtain ⟨q1, q2⟩ := rk.key e1
          subst q2
          rw [putK_len l] at hl
          obtain ⟨ds', F', p1, p2, p3⟩ := put_rep kD_key (k := kk) re l
          have kp : Keep (fun b => b = a) H (upd H a (.dK (putK kvs kk x))) := Keep.write rfl
          refine ⟨_, F', .inl ⟨kvs, kk, rd, q1, lim_lt hl, rfl⟩, ?_, p3, rfl, .inr (.inl ⟨_, upd_same⟩), kp, upd_dom⟩
          rw [p1]
          refine .dctK (.inl upd_same) (p2.keep kp wm fun b hb z => ?_)
          subst z
          exact (p3 b hb).elim na ne
        · cases h
    · cases h
  | @dctT _ kvs ds _ rd l =>
    have rd : H a = some (.dT kvs) := by
      rcases rd with q | ⟨o, q⟩
      · exact q
      · rcases m with ⟨_, z⟩ | ⟨_, z⟩ | ⟨_, z⟩ <;> rw [q] at z <;> cases z
    simp only [dput] at h
    cases e1 : tD k with
    | none =>
      rw [e1] at h
      cases h
    | some kk =>
      rw [e1] at h
      simp only [Option.bind_some] at h
      split at h
      · rename_i hl
        cases h
        obtain ⟨b, q1, q3, q2⟩ := rk.keyT e1
        subst q2
        rw [putK_len l] at hl
        obtain ⟨ds', F', p1, p2, p3⟩ := put_rep tD_key (k := kk) re l
        have kp : Keep (fun b => b = a) H (upd H a (.dT (putK kvs kk x))) := Keep.write rfl
        refine ⟨_, F', .inr ⟨kvs, kk, b, rd, q1, q3, lim_lt hl, rfl⟩, ?_, p3, rfl, .inr (.inr ⟨_, upd_same⟩), kp, upd_dom⟩
        rw [p1]
        refine .dctT (.inl upd_same) (p2.keep kp wm fun b hb z => ?_)
        subst z
        exact (p3 b hb).elim na ne
      · cases h
end
end DV

set_option Elab.async false
set_option linter.all false
set_option maxRecDepth 100000
set_option maxHeartbeats 2000000
namespace DV
open PySem L2 PySem.Spec
open PyProof.Rows hiding St

section
variable {X : Cx}
/-! ### rules for values: dicts read by [] and in, sequences searched deep -/
def rIxD : R2 := fun x y H Q => ∃ a v, x = .ref a ∧ DGet H a y (some v) ∧ Q v H
theorem ix_dict (hu : X.A.units + 1 < cLine) : IxR X rIxD := by
  intro value slice pins s σ H x y v u Q I rx ry h hs
  obtain ⟨a, z, rfl, g, q⟩ := h
  cases rx
  have hT := dict_typeIs I g
  unfold subscriptTail
  refine wpAny_bind ?_
  rw [getitemInPython_of_ne hT.not_modules]
  refine wpAny_bind (wpAny_specialOf hT PySem.F.slot_dict_getitem.lookup ?_)
  have fin : wpAny (model X.prog X.w) X.A (subscripted slice false (.ref a) u) (fun r s₃ => wpAny (model X.prog X.w) X.A (letTemporaryGo value (.ref a) r >>= fun _ => pure r) (EP X pins σ Q) X.xe s₃) X.xe s := by
    rw [hs]
    exact wpAny_operating (wpAny_mono (d_getItem (Q := fun w' s' => EP X pins σ Q w' s') hu I g ry fun w' s' I' rw' => ⟨z, H, I', rw', q⟩) (fun r s₃ h₃ => wpAny_bind (wpAny_letTemporaryGo (wpAny_pure h₃))) fun _ _ x => x)
  first
    | exact wpAny_pure (wpAny_bind fin)
    | exact wpAny_bind (wpAny_pure (wpAny_bind fin))
    | exact wpAny_bind fin
def rIxA (K : PySem.W.Frag) : R2 := fun x y H Q => rIx K x y H Q ∨ rIxD x y H Q
theorem ix_all (hu : X.A.units + 1 < cLine) : IxR X (rIxA X.K) := ix_seq.or (ix_dict hu)
theorem OpR.or {f : Value → Value → Sem Value} {r r' : R2} (h : OpR X f r) (h' : OpR X f r') : OpR X f (fun x y H Q => r x y H Q ∨ r' x y H Q) := by
  intro pins s σ H x y v u Q I rx ry q
  rcases q with q | q
  · exact h pins s σ H x y v u Q I rx ry q
  · exact h' pins s σ H x y v u Q I rx ry q
def rInDict (neg : Bool) : R2 := fun y x H Q => ∃ a o, x = .ref a ∧ DGet H a y o ∧ Q (.bl (if neg = true then !o.isSome else o.isSome)) H
theorem op_inDict (hu : X.A.units + 1 < cLine) : OpR X (compareOp .In) (rInDict false) := by
  intro pins s σ H x y v u Q I rx ry h
  obtain ⟨a, o, rfl, g, q⟩ := h
  cases ry
  exact d_in hu I g rx fun s3 I3 => ⟨.bl o.isSome, H, I3, rfl, q⟩
theorem op_notInDict (hu : X.A.units + 1 < cLine) : OpR X (compareOp .NotIn) (rInDict true) := by
  intro pins s σ H x y v u Q I rx ry h
  obtain ⟨a, o, rfl, g, q⟩ := h
  cases ry
  exact d_notIn hu I g rx fun s3 I3 => ⟨.bl (!o.isSome), H, I3, rfl, q⟩
def rInSq (K : PySem.W.Frag) (neg : Bool) : R2 := fun x y H Q => ∃ p d vs ds, y = .ref p ∧ (SqL K H p vs ∨ SqT K H p vs) ∧ Dp K H x d ∧ DpAll K H vs ds ∧ SeqAt.shaped d = true ∧ SeqAt.shaped (.list ds) = true ∧ Q (.bl (if neg = true then !ds.any (fun z => PyData.eqv z d) else ds.any fun z => PyData.eqv z d)) H
theorem any_reads {h : Heap} {d : PyData} {its : List Value} {ds : List PyData} {as : List Addr} (hc : PyData.canLayAll0 ds = true) (h4 : ReadsAll h its ds as) : its.toArray.any (fun u => PyData.eqv (SeqAt.readOf h u) d) = ds.any fun z => PyData.eqv z d := by
  have hmap := SeqAt.readsAll_map ds its as hc h4
  rw [← hmap, List.any_map]
  simp [Function.comp_def]
theorem op_inSq (hu : X.A.units + 65 < cLine) : OpR X (compareOp .In) (rInSq X.K false) := by
  intro pins s σ H x y v u Q I rx ry h
  obtain ⟨p, d, vs, ds, rfl, hq, hd, ha, sd, sl, q⟩ := h
  cases ry
  obtain ⟨bs, r1⟩ := Dp.reads I d x v hd rx
  have hxs : PyData.canLayAll0 ds = true := SeqAt.canLay_of_shaped sl
  have hroom : X.A.units + 1 + min (PyData.depthAll ds) d.depth < cLine := room_in_shaped sd hu
  rcases hq with hq | hq
  · obtain ⟨its, r, pl, hz⟩ := I.list hq
    obtain ⟨as, h4⟩ := Dp.readsAll I ds _ its ha r
    have he := SeqAt.items_eqAt (A := X.A) (vs := its.toArray) (show ReadsAll s.heap its.toArray.toList ds as from h4) r1 hxs (SeqAt.canLay_of_shaped sd) hroom
    refine SeqAt.in_listAt (fun u => PyData.eqv (SeqAt.readOf s.heap u) d) pl.isList he ⟨.bl _, H, I, rfl, ?_⟩
    rw [any_reads hxs h4]
    exact q
  · obtain ⟨its, r, pl, hz⟩ := I.tuple hq
    obtain ⟨as, h4⟩ := Dp.readsAll I ds _ its ha r
    have he := SeqAt.items_eqAt (A := X.A) (vs := its.toArray) (show ReadsAll s.heap its.toArray.toList ds as from h4) r1 hxs (SeqAt.canLay_of_shaped sd) hroom
    refine SeqAt.in_tupleAt (fun u => PyData.eqv (SeqAt.readOf s.heap u) d) pl he ⟨.bl _, H, I, rfl, ?_⟩
    rw [any_reads hxs h4]
    exact q
theorem op_notInSq (hu : X.A.units + 65 < cLine) : OpR X (compareOp .NotIn) (rInSq X.K true) := by
  intro pins s σ H x y v u Q I rx ry h
  obtain ⟨p, d, vs, ds, rfl, hq, hd, ha, sd, sl, q⟩ := h
  cases ry
  obtain ⟨bs, r1⟩ := Dp.reads I d x v hd rx
  have hxs : PyData.canLayAll0 ds = true := SeqAt.canLay_of_shaped sl
  have hroom : X.A.units + 1 + min (PyData.depthAll ds) d.depth < cLine := room_in_shaped sd hu
  rcases hq with hq | hq
  · obtain ⟨its, r, pl, hz⟩ := I.list hq
    obtain ⟨as, h4⟩ := Dp.readsAll I ds _ its ha r
    have he := SeqAt.items_eqAt (A := X.A) (vs := its.toArray) (show ReadsAll s.heap its.toArray.toList ds as from h4) r1 hxs (SeqAt.canLay_of_shaped sd) hroom
    refine SeqAt.notIn_listAt (fun u => PyData.eqv (SeqAt.readOf s.heap u) d) pl.isList he ⟨.bl _, H, I, rfl, ?_⟩
    rw [any_reads hxs h4]
    exact q
  · obtain ⟨its, r, pl, hz⟩ := I.tuple hq
    obtain ⟨as, h4⟩ := Dp.readsAll I ds _ its ha r
    have he := SeqAt.items_eqAt (A := X.A) (vs := its.toArray) (show ReadsAll s.heap its.toArray.toList ds as from h4) r1 hxs (SeqAt.canLay_of_shaped sd) hroom
    refine SeqAt.notIn_tupleAt (fun u => PyData.eqv (SeqAt.readOf s.heap u) d) pl he ⟨.bl _, H, I, rfl, ?_⟩
    rw [any_reads hxs h4]
    exact q
def rInA (K : PySem.W.Frag) (neg : Bool) : R2 := fun x y H Q => rInSq K neg x y H Q ∨ rInDict neg x y H Q
theorem op_inA (hu : X.A.units + 65 < cLine) : OpR X (compareOp .In) (rInA X.K false) := DV.OpR.or (op_inSq hu) (op_inDict (by omega))
theorem op_notInA (hu : X.A.units + 65 < cLine) : OpR X (compareOp .NotIn) (rInA X.K true) := DV.OpR.or (op_notInSq hu) (op_notInDict (by omega))
/-- o[i] = v, a list | a dict -/
def rSetA : TSet := fun o i v H Q => rSetL o i v H Q ∨ ∃ a H', o = .ref a ∧ DPut H a i v H' ∧ Q H'
theorem set_all (hu : X.A.units + 1 < cLine) : PSet X rSetA := by
  intro pins s σ H o i v ov iv u Q I ro ri rv h
  rcases h with h | ⟨a, H', rfl, g, q⟩
  · exact set_list pins s σ H o i v ov iv u Q I ro ri rv h
  · cases ro
    exact d_setItem hu I g ri rv fun s4 I4 => ⟨H', I4, q⟩
end
def ixA (d k : PyData) : Option PyData := match d with
  | .dict _ => (dget d k).bind id
  | _ => ixD d k
theorem ok_ixA {K : PySem.W.Frag} : OK2 K (rIxA K) ixA false := by
  intro H v w d e F G d' Q r1 r2 hd k
  cases d with
  | dict kvs =>
    refine .inr ?_
    simp only [ixA] at hd
    cases q : dget (.dict kvs) e with
    | none =>
      rw [q] at hd
      cases hd
    | some o =>
      rw [q] at hd
      simp only [Option.bind_some, id_eq] at hd
      subst hd
      obtain ⟨a, rfl, h | h⟩ := dget_rep r1 r2 q
      · obtain ⟨x, hx, u, Fu, g, ru, su⟩ := h
        cases hx
        exact ⟨a, u, rfl, g, k _ _ _ (res_here ru fun b m => .inl (su b m))⟩
      · exact nomatch h.1
  | _ => exact .inl (ok_ix H v w _ e F G d' Q r1 r2 hd k)
def inD (neg : Bool) (d c : PyData) : Option PyData := match c with
  | .dict _ => (dget c d).map fun o => .bool (if neg = true then !o.isSome else o.isSome)
  | .list ds => if (SeqAt.shaped d && SeqAt.shaped (.list ds)) = true then some (.bool (if neg = true then !ds.any (fun z => PyData.eqv z d) else ds.any fun z => PyData.eqv z d)) else none
  | .tuple ds => if (SeqAt.shaped d && SeqAt.shaped (.list ds)) = true then some (.bool (if neg = true then !ds.any (fun z => PyData.eqv z d) else ds.any fun z => PyData.eqv z d)) else none
  | _ => none
theorem ok_inA {K : PySem.W.Frag} {neg : Bool} : OK2 K (rInA K neg) (inD neg) false := by
  intro H v w d e F G d' Q r1 r2 hd k
  cases e with
  | dict kvs =>
    refine .inr ?_
    simp only [inD] at hd
    cases q : dget (.dict kvs) d with
    | none =>
      rw [q] at hd
      cases hd
    | some o =>
      rw [q] at hd
      simp only [Option.map_some, Option.some.injEq] at hd
      subst hd
      obtain ⟨a, rfl, h | h⟩ := dget_rep r2 r1 q
      · obtain ⟨x, hx, u, Fu, g, ru, su⟩ := h
        subst hx
        exact ⟨a, some u, rfl, g, k _ _ _ (res_sc (.bl _))⟩
      · obtain ⟨hx, g⟩ := h
        subst hx
        exact ⟨a, none, rfl, g, k _ _ _ (res_sc (.bl _))⟩
  | list ds =>
    refine .inl ?_
    simp only [inD] at hd
    split at hd
    · rename_i h
      cases hd
      rw [Bool.and_eq_true] at h
      obtain ⟨a, vs, G', rfl, q, l, _⟩ := r2.sqL
      exact ⟨a, d, vs, ds, rfl, .inl q, r1.dp (SeqAt.canLay_of_shaped h.1), l.dp (SeqAt.canLay_of_shaped h.2), h.1, h.2, k _ _ _ (res_sc (.bl _))⟩
    · cases hd
  | tuple ds =>
    refine .inl ?_
    simp only [inD] at hd
    split at hd
    · rename_i h
      cases hd
      rw [Bool.and_eq_true] at h
      obtain ⟨a, vs, rfl, q, l⟩ := r2.sqT
      exact ⟨a, d, vs, ds, rfl, .inr q, r1.dp (SeqAt.canLay_of_shaped h.1), l.dp (SeqAt.canLay_of_shaped h.2), h.1, h.2, k _ _ _ (res_sc (.bl _))⟩
    · cases hd
  | _ => simp [inD] at hd

/-! ### methods that write: lists -/
theorem Rep.mutL {K : PySem.W.Frag} {H : Hp} {a : Addr} {xs : List PyData} {G : List Addr} (r : Rep K H (.ref a) (.list xs) (a :: G)) : ∃ vs, H a = some (.lst vs) ∧ RepL K H vs xs G := by
  cases r with
  | lst h l => exact ⟨_, h, l⟩
/-- what a list's write leaves -/
theorem mres_lst {K : PySem.W.Frag} {H : Hp} {a : Addr} {vs vs' : List V} {xs' : List PyData} {G' : List Addr} {P : Addr → Prop} {res : PyData} {v' : V} {Fv : List Addr} (h : H a = some (.lst vs)) (l : RepL K H vs' xs' G') (n : a ∉ G') (r : Rep K H v' res Fv) (nv : a ∉ Fv) (pv : ∀ b ∈ Fv, P b) (pg : ∀ b ∈ G', P b) :
    MRes K H (upd H a (.lst vs')) a v' res Fv (.list xs') G' P := by
  have kp : Keep (fun b => b = a) H (upd H a (.lst vs')) := Keep.write rfl
  have w : ∀ b, b = a → MutA H b := fun b e => by
    rw [e]
    exact .inl ⟨_, h⟩
  exact ⟨kp, upd_dom, r.keep kp w fun b m e => nv (by rw [← e]; exact m), pv, .lst upd_same (l.keep kp w fun b m e => n (by rw [← e]; exact m)), fun b m => .inl (pg b m), rfl, .inl ⟨_, upd_same⟩⟩
def appD : PyData → List PyData → Option (PyData × PyData)
  | .list xs, [d] => if xs.length < lim then some (.none, .list (xs ++ [d])) else none
  | _, _ => none
theorem ok_append {K : PySem.W.Frag} : OKM K rAppend appD := by
  intro H a d G vs ds Fa res d' Q r m na l nf hg k
  cases d with
  | list xs =>
    cases l with
    | nil => simp [appD] at hg
    | cons r1 l =>
      cases l with
      | cons _ _ => simp [appD] at hg
      | nil =>
        simp only [appD] at hg
        split at hg
        · rename_i hl
          cases hg
          obtain ⟨ws, hw, lw⟩ := r.mutL
          refine ⟨a, ws, _, rfl, rfl, hw, lim_lt (by rw [lw.length]; exact hl), k .non _ [] _ (mres_lst hw (lw.append (.cons r1 .nil)) (fun z => ?_) .non (fun z => nomatch z) (fun b z => nomatch z) fun b z => ?_)⟩
          · exact (List.mem_append.mp z).elim na nf
          · exact List.mem_append.mp z
        · cases hg
  | _ => simp [appD] at hg
def popD : PyData → List PyData → Option (PyData × PyData)
  | .list xs, [] => xs[xs.length - 1]?.map fun y => (y, .list xs.dropLast)
  | _, _ => none
theorem ok_pop {K : PySem.W.Frag} : OKM K rPop popD := by
  intro H a d G vs ds Fa res d' Q r m na l nf hg k
  cases d with
  | list xs =>
    cases l with
    | cons r1 l => simp [popD] at hg
    | nil =>
      simp only [popD] at hg
      cases e : xs[xs.length - 1]? with
      | none =>
        rw [e] at hg
        cases hg
      | some y =>
        rw [e] at hg
        cases hg
        obtain ⟨ws, hw, lw⟩ := r.mutL
        obtain ⟨v, Gy, h1, h2, h3⟩ := lw.get e
        obtain ⟨G', h4, h5⟩ := lw.take (xs.length - 1)
        rw [← lw.length] at h1 h4
        refine ⟨a, ws, v, rfl, rfl, hw, h1, k v _ Gy G' ?_⟩
        rw [List.dropLast_eq_take, List.dropLast_eq_take, ← lw.length]
        exact mres_lst hw h4 (fun z => na (h5 a z)) h2 (fun z => na (h3 a z)) (fun b z => .inl (h3 b z)) fun b z => .inl (h5 b z)
  | _ => simp [popD] at hg
theorem RepL.erase {K : PySem.W.Frag} {H : Hp} {vs : List V} {ds : List PyData} {F : List Addr} (h : RepL K H vs ds F) (n : Nat) : ∃ G, RepL K H (vs.eraseIdx n) (ds.eraseIdx n) G ∧ ∀ a ∈ G, a ∈ F := by
  refine RepL.of_all (by rw [List.length_eraseIdx, List.length_eraseIdx, h.length]) fun i v d e1 e2 => ?_
  rw [List.getElem?_eraseIdx] at e1 e2
  split at e1
  · rename_i hlt
    rw [if_pos hlt] at e2
    exact h.at e1 e2
  · rename_i hlt
    rw [if_neg hlt] at e2
    exact h.at e1 e2
def popAtD : PyData → List PyData → Option (PyData × PyData)
  | .list xs, [.int i] => if -(2 ^ 63) ≤ i ∧ i < 2 ^ 63 then (seqIndex? i xs.length).bind fun k => xs[k]?.map fun y => (y, .list (xs.eraseIdx k)) else none
  | _, _ => none
theorem ok_popAt {K : PySem.W.Frag} : OKM K rPopAt popAtD := by
  intro H a d G vs ds Fa res d' Q r m na l nf hg k
  cases d with
  | list xs =>
    cases l with
    | nil => simp [popAtD] at hg
    | @cons v1 _ d1 _ F1 _ r1 l =>
      cases l with
      | cons _ _ => cases d1 <;> simp [popAtD] at hg
      | nil =>
        cases d1 with
        | int i =>
          simp only [popAtD] at hg
          split at hg
          · rename_i hi
            cases e : seqIndex? i xs.length with
            | none =>
              rw [e] at hg
              cases hg
            | some j =>
              rw [e] at hg
              simp only [Option.bind_some] at hg
              cases e2 : xs[j]? with
              | none =>
                rw [e2] at hg
                cases hg
              | some y =>
                rw [e2] at hg
                cases hg
                cases r1
                obtain ⟨ws, hw, lw⟩ := r.mutL
                obtain ⟨v, Gy, h1, h2, h3⟩ := lw.get e2
                obtain ⟨G', h4, h5⟩ := lw.erase j
                rw [← lw.length] at e
                exact ⟨a, ws, i, j, v, rfl, rfl, hw, hi.1, hi.2, e, h1, k v _ Gy G' (mres_lst hw h4 (fun z => na (h5 a z)) h2 (fun z => na (h3 a z)) (fun b z => .inl (h3 b z)) fun b z => .inl (h5 b z))⟩
          · cases hg
        | _ => simp [popAtD] at hg
  | _ => simp [popAtD] at hg
def insD : PyData → List PyData → Option (PyData × PyData)
  | .list xs, [.int i, d] => if xs.length < lim ∧ 0 ≤ i ∧ i < 2 ^ 63 then some (.none, .list (xs.take i.toNat ++ [d] ++ xs.drop i.toNat)) else none
  | _, _ => none
theorem ok_insert {K : PySem.W.Frag} : OKM K (fun x vs H Q => ∃ (l : Addr) (xs : List V) (i : Int) (y : V), x = .ref l ∧ vs = [.int i, y] ∧ H l = some (.lst xs) ∧ xs.length < sizeLine ∧ 0 ≤ i ∧ i < 2 ^ 63 ∧
    Q .non (upd H l (.lst (xs.take i.toNat ++ [y] ++ xs.drop i.toNat)))) insD := by
  intro H a d G vs ds Fa res d' Q r m na l nf hg k
  cases d with
  | list xs =>
    cases l with
    | nil => simp [insD] at hg
    | @cons v1 _ d1 _ F1 _ r1 l =>
      cases l with
      | nil => cases d1 <;> simp [insD] at hg
      | @cons v2 _ d2 _ F2 _ r2 l =>
        cases l with
        | cons _ _ => cases d1 <;> simp [insD] at hg
        | nil =>
          cases d1 with
          | int i =>
            simp only [insD] at hg
            split at hg
            · rename_i hi
              cases hg
              cases r1
              obtain ⟨ws, hw, lw⟩ := r.mutL
              obtain ⟨G1, h4, h5⟩ := lw.take i.toNat
              obtain ⟨G2, h6, h7⟩ := lw.drop i.toNat
              have inG : ∀ b, b ∈ G1 ++ (F2 ++ []) ++ G2 → b ∈ G ∨ b ∈ F2 := fun b m => by
                rcases List.mem_append.mp m with m | m
                · rcases List.mem_append.mp m with m | m
                  · exact .inl (h5 b m)
                  · rw [List.append_nil] at m
                    exact .inr m
                · exact .inl (h7 b m)
              refine ⟨a, ws, i, v2, rfl, rfl, hw, lim_lt (by rw [lw.length]; exact hi.1), hi.2.1, hi.2.2, k .non _ [] _ (mres_lst hw ((h4.append (.cons r2 .nil)).append h6) (fun z => ?_) .non (fun z => nomatch z) (fun b z => nomatch z) fun b z => ?_)⟩
              · exact (inG a z).elim na fun q => nf (by simpa using q)
              · exact (inG b z).imp id fun q => by simpa using q
            · cases hg
          | _ => simp [insD] at hg
  | _ => simp [insD] at hg
end DV

set_option Elab.async false
set_option linter.all false
set_option maxRecDepth 100000
set_option maxHeartbeats 2000000
namespace DV
open PySem L2 PySem.Spec
open PyProof.Rows hiding St

/-! ### x[k] = v -/
def setD (d k v : PyData) : Option PyData := match d with
  | .list xs => match k with
    | .int i => (ixN xs.length i).map fun j => .list (xs.set j v)
    | _ => none
  | _ => dput d k v
def setS (i : Nat) (fk fv : Env → Rs PyData) : Env → Rs Fl := fun env => (fv env).bind fun v e1 => (fk e1).bind fun k e2 => match e2[i]? with
  | some (some d) => match setD d k v with
    | some d' => .ok .nx (e2.set i (some d'))
    | none => .bad
  | _ => .bad
theorem setD_rep {K : PySem.W.Frag} {H : Hp} {a : Addr} {d k e : PyData} {w x : V} {G0 G Fe : List Addr} (r : Rep K H (.ref a) d (a :: G0)) (m : MutA H a) (na : a ∉ G0) (rk : Rep K H w k G) (re : Rep K H x e Fe) (ne : a ∉ Fe) {d' : PyData} (h : setD d k e = some d') :
    ∃ H' G', (∀ Q : Hp → Prop, Q H' → rSetA (.ref a) w x H Q) ∧ Rep K H' (.ref a) d' (a :: G') ∧ (∀ b ∈ G', b ∈ G0 ∨ b ∈ Fe) ∧ isC d' = true ∧ MutA H' a ∧ Keep (fun b => b = a) H H' ∧ ∀ b, H' b = none → H b = none := by
  have dict : dput d k e = some d' → ∃ H' G', (∀ Q : Hp → Prop, Q H' → rSetA (.ref a) w x H Q) ∧ Rep K H' (.ref a) d' (a :: G') ∧ (∀ b ∈ G', b ∈ G0 ∨ b ∈ Fe) ∧ isC d' = true ∧ MutA H' a ∧ Keep (fun b => b = a) H H' ∧ ∀ b, H' b = none → H b = none := fun h => by
    obtain ⟨H', G', h1, h2⟩ := dput_rep r m na rk re ne h
    exact ⟨H', G', fun Q q => .inr ⟨a, H', rfl, h1, q⟩, h2⟩
  cases d with
  | list xs =>
    cases k with
    | int i =>
      simp only [setD] at h
      cases e1 : ixN xs.length i with
      | none =>
        rw [e1] at h
        cases h
      | some j =>
        rw [e1] at h
        cases h
        cases rk
        obtain ⟨ws, hw, lw⟩ := r.mutL
        obtain ⟨G', h1, h2⟩ := lw.set j re
        have kp : Keep (fun b => b = a) H (upd H a (.lst (ws.set j x))) := Keep.write rfl
        have wm : ∀ b, b = a → MutA H b := fun b e => by rw [e]; exact m
        refine ⟨_, G', fun Q q => .inl ⟨a, ws, i, j, rfl, rfl, hw, by rw [lw.length]; exact e1, q⟩, .lst upd_same (h1.keep kp wm fun b mb e => ?_), h2, rfl, .inl ⟨_, upd_same⟩, kp, upd_dom⟩
        subst e
        exact (h2 b mb).elim na ne
    | _ => cases h
  | dict kvs => exact dict h
  | none => exact dict h
  | bool _ => exact dict h
  | int _ => exact dict h
  | str _ => exact dict h
  | tuple _ => exact dict h
section
variable {C : Ct} {U Rv U1 U2 : List Nat} {es : List Expr} {e ke ve : Expr} {fk fv : Env → Rs PyData} {fa : Env → Rs (List PyData)} {kds : List Kd} {pos : Pos} {i : Nat} {ex : Ex}
theorem EnvR.units {A : Around} {k : Nat} (r : Room k A) : A.units + 1 < cLine := by
  have := r.un
  omega
theorem ds_set {x : Str} {p sp : Pos} (hN : ∀ z, (C.X z).N[i]? = some x) (hv : ∀ z, Vis (C.X z).env.scope x) (hd : (x == ("__debug__" : Str)) = false) (hcd : (x == ("__classdict__" : Str)) = false) (hu : ∀ z, (C.X z).A.units + 1 < cLine)
    (hV : DE C U Rv ve fv U1 .cl) (hK : DE C U1 Rv ke fk U2 .cl) (hi : i ∈ U2) (hR : i ∉ Rv)
    (ha : ∀ z v, assign (.Subscript (.Name x p) ke sp) (C.X z).env v = (do
      let ov ← holding [v] (eval (.Name x p) (C.X z).env)
      let iv ← holding [v, ov] (eval ke (C.X z).env)
      standAt sp
      holding [v, ov, iv] (setItem ov iv v)
      release [v, ov, iv] []) := by intro _ _; rfl)
    (hs : ∀ z, swapsWithSole [.Subscript (.Name x p) ke sp] ve pos.line (C.X z).env = pure false := by intro _; rfl) (hw : ∀ z, swappedStores [.Subscript (.Name x p) ke sp] ve (C.X z).env = pure none := by intro _; rfl)
    (h1' : ∀ z, (assignEach [.Subscript (.Name x p) ke sp] (C.X z).env).map (·.2) = [assign (.Subscript (.Name x p) ke sp) (C.X z).env] := by intro _; rfl) :
    DS C U Rv (.Assign [.Subscript (.Name x p) ke sp] ve pos) (setS i fk fv) U2 ex := by
  obtain ⟨h1, t, tp, ts⟩ := hV
  obtain ⟨g1, u, up, us⟩ := hK
  refine ⟨tAsg t (gSub (tVar i) u rSetA), fun z => ps_asg (tp z) (pg_sub (pe_var (hN z) (hv z) hd hcd) (up z) (set_all (hu z)) (ha z)) (hs z) (hw z) (h1' z), fun σ H env Fs D R h => ts σ H env Fs _ R ?_⟩
  unfold setS at h
  rw [wp_bind] at h
  refine wp_mono h fun v e1 h xv H1 Fs1 F pp => ?_
  rw [wp_bind] at h
  obtain ⟨d0, a, G0, q1, q2, q3, q4, q5, q6, q7, q8⟩ := pp.env.uni i (g1 i hi)
  refine ⟨_, q3, us σ H1 e1 Fs1 _ pp.env (wp_mono h fun k e2 h kv H2 Fs2 Fk pk => ?_)⟩
  split at h
  · rename_i d ed
    split at h
    · rename_i d' hset
      have A := pp.ait.later pp.env pk.t g1 (fun j z => nomatch z) fun z => nomatch z
      obtain ⟨d1, G, z1, z2, z3, z4, z5, z6, z7⟩ := pk.env.root hi q3
      rw [ed] at z1
      cases z1
      obtain ⟨v0, ev0, r0⟩ := pk.env.rep i d ed
      rw [q3] at ev0
      cases ev0
      rw [z3] at r0
      have cA := A.cln rfl
      obtain ⟨H', G', s1, s2, s3, s4, s5, s6, s7⟩ := setD_rep r0 z6 z4 pk.rep A.rep (cA i hi a q3) hset
      have T := pp.t.trans pk.t h1 fun _ z => z
      have clG : Clean U2 σ G' := fun j hj c ec m => by
        rcases s3 c m with q | q
        · by_cases z : j = i
          · subst z
            rw [q3] at ec
            cases ec
            exact z4 q
          · obtain ⟨_, G2, _, _, w3, _, w5, _, _⟩ := pk.env.root hj ec
            exact w5 i (fun y => z y.symm) (by rw [z3]; exact List.mem_cons_of_mem _ q)
        · exact cA j hj c ec q
      have R' := pk.env.own hi q3 s6 s7 s2 s4 (fun m => clG i hi a q3 m) clG s5
      have hiU : i ∈ U := h1 i (g1 i hi)
      refine s1 _ ((show ∀ σ' H' Fs', SPost C U Rv σ H Fs U2 σ' H' (e2.set i (some d')) Fs' → D.nx σ' H' from h) σ H' _ ⟨R', T.keep.trans s6 fun b _ z => ⟨i, hiU, hR, by rw [z]; exact q3⟩, fun b e => T.dom b (s7 b e), fun j b m => ?_, fun j hj hr b eb => .inl ⟨j, h1 j (g1 j hj), hr, eb⟩, fun _ _ => rfl, fun j hj _ => h1 j (g1 j hj)⟩)
      by_cases z : j = i
      · subst z
        rw [setF_same] at m
        rcases List.mem_cons.mp m with m | m
        · rw [m]
          exact T.grow j a (by rw [z3]; exact List.mem_cons_self)
        · rcases s3 b m with q | q
          · exact T.grow j b (by rw [z3]; exact List.mem_cons_of_mem _ q)
          · exact A.fgrow b q
      · rw [setF_ne z] at m
        exact T.grow j b m
    · exact (show False from h).elim
  · exact (show False from h).elim

/-! ### f(.., x, ..) that writes x -/
theorem de_callM {x : Str} {p : Pos} {n m q : Nat} {dfl : List PyData} {rk : Kd} {f : List PyData → Rs PyData} (c : CalD C x n m dfl [q] rk f) (hg : ∀ z, Gl (C.X z) x) (hdb : (x == ("__debug__" : Str)) = false) (ha : DA C U Rv (e :: es) fa U1 kds) (hm : kds.length = m) (hk : clBut kds 0 [q] = true) (hq : kds[q]? = some (.br i)) (hi : i ∈ U1) (hR : i ∉ Rv) (hrk : ∀ i, rk ≠ .br i)
    (he : ∀ z, starEach (e :: es) (C.X z).env = (false, eval e (C.X z).env) :: starEach es (C.X z).env := by intro _; rfl) (hpl : ∀ z, (backTo pos (starEach es (C.X z).env)).any (·.1) = false := by intro _; rfl) :
    DE C U Rv (.Call (.Name x p) (e :: es) [] pos) (callM q i f dfl fa) U1 rk := by
  obtain ⟨h1, t, hp, hs⟩ := ha
  obtain ⟨dvs, hdv, hz⟩ := c.ex
  refine ⟨h1, tCallSD (spD C.K n [q] rk f) dvs (WE C.W) t, fun z => ?_, fun σ H env Fs Q R hw => hs σ H env Fs _ R ?_⟩
  · obtain ⟨k, fa', fd, ps, dd, q1, q2, q3, q4, q5, q6⟩ := hz z
    exact DV.pe_callG q1 q2 (hg z) q3 q4 q5 q6 (passAt (C.tk z)) (hp z) hdb (he z) (hpl z)
  unfold callM at hw
  rw [wp_bind] at hw
  refine wp_mono hw fun ds e1 hw vs H1 Fs1 FF p as => ?_
  have hl := as.len
  have A0 := args_of as (hdv H1)
  obtain ⟨vq, dq, a1, a2, a3⟩ := as.at hq
  obtain ⟨hiU, ev, nF⟩ := a3.brw i rfl
  obtain ⟨d0, a, G, z1, z2, z3, z4, z5, z6, z7, z8⟩ := p.env.uni i hi
  rw [ev] at z3
  cases z3
  have hql : q < vs.length := (List.getElem?_eq_some_iff.mp a1).1
  have hqd : q < ds.length := (List.getElem?_eq_some_iff.mp a2).1
  have hqF : q < FF.length := by rw [hl.2.2, ← hl.1]; exact hql
  -- the written argument's footprint
  have fq : ∃ Gq, ffAt FF q = a :: Gq ∧ isC dq = true ∧ a ∉ Gq := by
    have r := a3.rep
    have inn := a3.inn i hi a ev
    have key : isC dq = true → (∃ Gq, ffAt FF q = a :: Gq) → ∃ Gq, ffAt FF q = a :: Gq ∧ isC dq = true ∧ a ∉ Gq := fun hc ⟨Gq, e⟩ => by
      refine ⟨Gq, e, hc, fun m => inn ?_⟩
      unfold inner
      rw [if_pos hc, e]
      exact m
    generalize ffAt FF q = Fq at r key inn nF
    cases r with
    | tup e _ => rcases z7 with ⟨_, y⟩ | ⟨_, y⟩ | ⟨_, y⟩ <;> rw [e] at y <;> cases y
    | lst _ _ => exact key rfl ⟨_, rfl⟩
    | frz e => rcases z7 with ⟨_, y⟩ | ⟨_, y⟩ | ⟨_, y⟩ <;> rw [e] at y <;> cases y
    | lsc e => exact absurd rfl nF
    | dctK _ _ => exact key rfl ⟨_, rfl⟩
    | dctT _ _ => exact key rfl ⟨_, rfl⟩
    | con e => exact absurd rfl nF
  obtain ⟨Gq, fq1, fq2, fq3⟩ := fq
  have hdl : ∀ j, j < ds.length → ffAt (FF ++ dfl.map fun _ => []) j = ffAt FF j := fun j hj => by
    unfold ffAt
    rw [List.getD_eq_getElem?_getD, List.getD_eq_getElem?_getD, List.getElem?_append_left (by rw [hl.2.2, ← hl.2.1]; exact hj)]
  -- the other arguments are clean
  have oth : ∀ j, j ≠ q → Clean U1 σ (ffAt FF j) := fun j hj => by
    by_cases hjl : j < kds.length
    · have e := List.getElem?_eq_getElem hjl
      have hcl := clBut_at (i := 0) hk e (by simpa using hj)
      rw [hcl] at e
      obtain ⟨_, _, _, _, a4⟩ := as.at e
      exact a4.cln rfl
    · unfold ffAt
      rw [List.getD_eq_getElem?_getD, List.getElem?_eq_none (by omega)]
      exact Clean.nil
  have ffg : ∀ j b, b ∈ ffAt (FF ++ dfl.map fun _ => []) j → (∃ k, b ∈ Fs k) ∨ H b = none := fun j b hb => by
    obtain ⟨hj, hb⟩ := ffAt_app hb
    have e := List.getElem?_eq_getElem (l := kds) (i := j) (by omega)
    obtain ⟨_, _, _, _, a4⟩ := as.at e
    exact a4.fgrow b hb
  -- a root of U1 that stands in an argument is the written one
  have rootIn : ∀ j b k c, b ∈ ffAt (FF ++ dfl.map fun _ => []) j → k ∈ U1 → σ[k]? = some (some (.ref c)) → c = b → c = a := fun j b k cc hb hkk ec e => by
    obtain ⟨_, hb⟩ := ffAt_app hb
    subst e
    by_cases z : j = q
    · subst z
      rw [fq1] at hb
      rcases List.mem_cons.mp hb with y | y
      · exact y
      · have inn := a3.inn k hkk cc ec
        unfold inner at inn
        rw [if_pos fq2, fq1] at inn
        exact absurd y inn
    · exact absurd hb (oth j z k hkk cc ec)
  have A : ArgsR C.K H1 [q] (vs ++ dvs) (ds ++ dfl) (FF ++ dfl.map fun _ => []) := by
    refine ⟨A0.rep, fun p hp => ?_⟩
    rw [List.mem_singleton.mp hp]
    refine ⟨dq, a, Gq, by rw [List.getElem?_append_left hqd]; exact a2, fq2, by rw [List.getElem?_append_left hql]; exact a1, by rw [hdl q hqd]; exact fq1, fq3, fun j hj hm => ?_, z7⟩
    obtain ⟨_, hm⟩ := ffAt_app hm
    exact oth j hj i hi a ev hm
  refine ⟨ds ++ dfl, FF ++ dfl.map fun _ => [], by rw [A0.rep.length.1, List.length_append, hl.2.1, hm, c.nm], A, ?_⟩
  cases hf : f (ds ++ dfl) with
  | bad =>
    rw [hf] at hw
    exact (show False from hw).elim
  | exc c' v e2 =>
    rw [hf] at hw
    exact (show False from hw).elim
  | ok d e2 =>
    rw [hf] at hw
    refine fun v H' F Fm P => ?_
    obtain ⟨d', b, Gm, m1, m2, m3, m4, m5, m6, m7, m8⟩ := P.mutp q (List.mem_singleton.mpr rfl)
    rw [List.getElem?_append_left hql, a1] at m3
    cases m3
    have kp : Keep (fun b => b = a) H1 H' := P.keep.mono fun c ⟨p, h1, h2⟩ => by
      rw [List.mem_singleton.mp h1, List.getElem?_append_left hql, a1] at h2
      cases h2
      rfl
    have clM : Clean U1 σ Gm := fun j hj c ec m => by
      rcases P.mgrow q (List.mem_singleton.mpr rfl) c (by rw [m5]; exact List.mem_cons_of_mem _ m) with ⟨l, hl'⟩ | z
      · have := rootIn l c j c hl' hj ec rfl
        subst this
        exact m6 m
      · obtain ⟨_, _, _, _, _, _, _, w6, _⟩ := p.env.root hj ec
        exact w6.ne z
    have clF : Clean U1 σ F := fun j hj c ec m => by
      rcases P.fgrow c m with ⟨l, hl'⟩ | z
      · have := rootIn l c j c hl' hj ec rfl
        subst this
        exact P.fcl q (List.mem_singleton.mpr rfl) c (by rw [List.getElem?_append_left hql]; exact a1) m
      · obtain ⟨_, _, _, _, _, _, _, w6, _⟩ := p.env.root hj ec
        exact w6.ne z
    have hg' : e2.getD q none = some d' := by
      rw [List.getD_eq_getElem?_getD, m1]
      rfl
    rw [m5] at m4
    have R' := p.env.own hi ev kp P.dom m4 m2 m6 clM m8
    rw [← hg'] at R'
    refine (show ∀ v H' Fs' F, EPost C U Rv σ H Fs U1 rk d (e1.set i (e2.getD q none)) v H' Fs' F → Q v H' from hw) v H' _ F ⟨R', p.keep.trans kp fun b _ z => ⟨i, h1 i hi, hR, by rw [z]; exact ev⟩, fun b e => p.dom b (P.dom b e), fun j b m => ?_, P.rep, fun b m => ?_, ?_, fun e b hb => ?_⟩
    · by_cases z : j = i
      · subst z
        rw [setF_same, ← m5] at m
        rcases P.mgrow q (List.mem_singleton.mpr rfl) b m with ⟨l, hl'⟩ | z
        · exact ffg l b hl'
        · exact .inr (p.dom b z)
      · rw [setF_ne z] at m
        exact p.grow j b m
    · rcases P.fgrow b m with ⟨l, hl'⟩ | z
      · exact ffg l b hl'
      · exact .inr (p.dom b z)
    · cases rk with
      | cl => exact clF
      | fr =>
        obtain ⟨b, G2, e1', e2', y1, y2, y3, y4, y5⟩ := P.new rfl
        subst e2'
        refine ⟨b, G2, e1', rfl, y1, y2, fun j m => ?_, y4, p.env.dom b y3, clF.sub fun c m => List.mem_cons_of_mem _ m⟩
        by_cases z : j = i
        · subst z
          rw [setF_same, ← m5] at m
          exact y5 q (List.mem_singleton.mpr rfl) m
        · rw [setF_ne z] at m
          exact p.env.trk m y3
      | br i => exact absurd rfl (hrk i)
    · obtain ⟨b', G2, e1', _, _, _, y3, _⟩ := P.new e
      rw [hb] at e1'
      cases e1'
      exact .inl (p.dom b y3)
end
end DV

set_option Elab.async false
set_option linter.all false
set_option maxRecDepth 100000
set_option maxHeartbeats 2000000
namespace DV
open PySem L2 PySem.Spec
open PyProof.Rows hiding St

/-! ### built-ins -/
section
variable {X : Cx}
theorem CallR.or {f : Value} {r r' : List V → Hp → VK → Prop} (h : CallR X f r) (h' : CallR X f r') : CallR X f (fun x H Q => r x H Q ∨ r' x H Q) := by
  intro pins s σ H xs us Q I rv q
  rcases q with q | q
  · exact h pins s σ H xs us Q I rv q
  · exact h' pins s σ H xs us Q I rv q
def rLenA (K : PySem.W.Frag) : List V → Hp → VK → Prop := fun xs H Q => (∃ p ys, xs = [.ref p] ∧ (SqL K H p ys ∨ SqT K H p ys) ∧ Q (.int ys.length) H) ∨ (∃ z, xs = [.str z] ∧ z.length ≤ sizeLine ∧ Q (.int z.length) H) ∨
  (∃ (a : Addr) (kvs : List (Key × V)), xs = [V.ref a] ∧ Rd H a (.dK kvs) ∧ Q (.int kvs.length) H) ∨ ∃ (a : Addr) (kvs : List (List Key × V)), xs = [V.ref a] ∧ Rd H a (.dT kvs) ∧ Q (.int kvs.length) H
theorem call_lenA : CallR X (.builtin "len") (rLenA X.K) := by
  refine CallR.or call_len_seq (CallR.or call_len_str (CallR.or ?_ ?_))
  · intro pins s σ H xs us Q I r h
    obtain ⟨a, kvs, rfl, ha, q⟩ := h
    obtain ⟨u, rfl, ru⟩ := vals1 r
    cases ru
    exact d_len I ha fun t s' I' => ⟨.int kvs.length, H, I', ⟨t, rfl⟩, q⟩
  · intro pins s σ H xs us Q I r h
    obtain ⟨p, kvs, rfl, hp, q⟩ := h
    obtain ⟨u, rfl, rx⟩ := vals1 r
    obtain rfl : u = .ref p := rx
    obtain ⟨z, hd, ys, rel, dd⟩ := dt_rd I.hok hp
    have hl : kvs.length = ys.length := Paired.length rel
    refine call_len_dictH hd dd (by rw [← hl]; rw [sizeLine_eq] at z; omega) ?_
    rw [← hl]
    exact ⟨.int ((kvs.length : Nat) : Int), H, I.tok _, ⟨_, rfl⟩, q⟩
/-- a value's built-in type -/
def tyOfD : PyData → String
  | .none => "NoneType"
  | .bool _ => "bool"
  | .int _ => "int"
  | .str _ => "str"
  | .list _ => "list"
  | .tuple _ => "tuple"
  | .dict [(.none, .tuple _)] => "tuple"
  | .dict _ => "dict"
theorem kit_rep {pins : List (Addr × Obj)} {σ : L2.St} {H : Hp} {s : Shared} {x : V} {u : Value} {d : PyData} {F : List Addr} (I : Inv X pins σ H s) (rx : RelV x u) (r : Rep X.K H x d F) :
    ∃ P : Heap → Prop, PySem.W.KitX X.K u (.type (tyOfD d)) P ∧ P s.heap ∧ u ≠ .builtin "__main__.__loader__#opaque" := by
  have dk : ∀ {a : Addr} {kvs : List (Key × V)}, Rd H a (.dK kvs) → ∃ P : Heap → Prop, PySem.W.KitX X.K (.ref a) (.type "dict") P ∧ P s.heap ∧ Value.ref a ≠ .builtin "__main__.__loader__#opaque" := fun {a kvs} e => by
    obtain ⟨_, _, vs, _, o, es, ep, h1, h2, _⟩ := dk_rd I.hok e
    exact ⟨_, PySem.W.kitx_dict, ⟨o, h1, h2.1⟩, fun z => nomatch z⟩
  have dt : ∀ {a : Addr} {kvs : List (List Key × V)}, Rd H a (.dT kvs) → ∃ P : Heap → Prop, PySem.W.KitX X.K (.ref a) (.type "dict") P ∧ P s.heap ∧ Value.ref a ≠ .builtin "__main__.__loader__#opaque" := fun {a kvs} e => by
    obtain ⟨_, _, vs, _, o, es, ep, h1, h2, _⟩ := dt_rd I.hok e
    exact ⟨_, PySem.W.kitx_dict, ⟨o, h1, h2.1⟩, fun z => nomatch z⟩
  cases r with
  | non => cases (show u = Value.none from rx); exact ⟨_, PySem.W.kitx_none, True.intro, fun z => nomatch z⟩
  | bl y => cases (show u = Value.bool y from rx); exact ⟨_, PySem.W.kitx_bool, True.intro, fun z => nomatch z⟩
  | int i => obtain ⟨t, q⟩ := (show ∃ t, u = Value.int i t from rx); cases q; exact ⟨_, PySem.W.kitx_int, True.intro, fun z => nomatch z⟩
  | str y => obtain ⟨t, q⟩ := (show ∃ t, u = Value.str y t from rx); cases q; exact ⟨_, PySem.W.kitx_str, True.intro, fun z => nomatch z⟩
  | @lst a xs _ _ ea _ =>
    cases (show u = Value.ref a from rx)
    obtain ⟨_, _, n, _, h1⟩ := (show ObjOk X.prog X.w H s.heap a (.lst xs) from I.hok a _ ea)
    exact ⟨_, PySem.W.kitx_list, ⟨_, h1, rfl⟩, fun z => nomatch z⟩
  | @frz a ob ns ea =>
    cases (show u = Value.ref a from rx)
    obtain ⟨_, _, _, n, _, h1⟩ := (show ObjOk X.prog X.w H s.heap a (.frz ob (.lst (ns.map V.int))) from I.hok a _ ea)
    exact ⟨_, PySem.W.kitx_list, ⟨_, h1, rfl⟩, fun z => nomatch z⟩
  | @lsc a ns e =>
    cases (show u = Value.ref a from rx)
    obtain ⟨o, _, _, h1, h2, _⟩ := e
    exact ⟨_, PySem.W.kitx_list, ⟨o, I.kIn a o h1, h2⟩, fun z => nomatch z⟩
  | @tup a xs _ _ ea _ =>
    cases (show u = Value.ref a from rx)
    obtain ⟨_, _, _, o, h1, h2, _⟩ := (show ObjOk X.prog X.w H s.heap a (.tup xs) from I.hok a _ ea)
    exact ⟨_, PySem.W.kitx_tuple, ⟨o, h1, h2⟩, fun z => nomatch z⟩
  | @con a ns e =>
    cases (show u = Value.ref a from rx)
    obtain ⟨its, r', pl, hz⟩ := I.tuple e
    obtain ⟨o, h1, h2, _⟩ := pl
    exact ⟨_, PySem.W.kitx_tuple, ⟨o, h1, h2⟩, fun z => nomatch z⟩
  | @dctK a kvs ds F e l =>
    cases (show u = Value.ref a from rx)
    have : tyOfD (.dict ((kvs.map fun p => keyD p.1).zip ds)) = "dict" := by
      unfold tyOfD
      split <;> first | rfl | (exfalso; rename_i z; simp only [PyData.dict.injEq, reduceCtorEq] at z; try exact zip_key keyD_ne z)
    rw [this]
    exact dk e
  | @dctT a kvs ds F e l =>
    cases (show u = Value.ref a from rx)
    exact dt e
/-- isinstance(x, T), T a built-in type's name -/
def rIsB (K : PySem.W.Frag) (T : String) : V → Hp → VK → Prop := fun x H Q => ∃ d F b, Rep K H x d F ∧ kitB (tyOfD d) T = some b ∧ Q (.bl b) H
def rIsB2 (K : PySem.W.Frag) (T : String) : List V → Hp → VK → Prop := fun xs H Q => ∃ x, xs = [x, .ty T] ∧ rIsB K T x H Q
theorem call_isB {T : String} : CallR X (.builtin "isinstance") (rIsB2 X.K T) := by
  intro pins s σ H xs us Q I r h
  obtain ⟨x, rfl, d, F, b, rd, e, q⟩ := h
  obtain ⟨u1, u2, rfl, r1, r2⟩ := vals2 r
  cases (show u2 = Value.type T from r2)
  obtain ⟨P, Z, p, hx⟩ := kit_rep I r1 rd
  exact PySem.W.kia_one Z I.kIn p (kit_ty e) hx fun tk => ⟨.bl b, H, I.tok tk, rfl, q⟩
/-- repr(x) -/
def rReprD (K : PySem.W.Frag) : List V → Hp → VK → Prop := fun xs H Q => ∃ x d, xs = [x] ∧ Dp K H x d ∧ d.canLay0 = true ∧ d.showable = true ∧ d.shown.length ≤ sizeLine ∧ d.depth ≤ 60 ∧ Q (.str d.shown) H
end
end DV
namespace DV
open PySem L2 PySem.Spec
open PyProof.Rows hiding St
section
variable {X : Cx}
mutual
theorem noDict_lay : ∀ d : PyData, d.canLay0 = true → d.hasDict = false
  | .none, _ => rfl
  | .bool _, _ => rfl
  | .int _, _ => rfl
  | .str _, _ => rfl
  | .list xs, h => by
    simp only [PyData.canLay0] at h
    simpa [PyData.hasDict] using noDict_layL xs h
  | .tuple xs, h => by
    simp only [PyData.canLay0] at h
    simpa [PyData.hasDict] using noDict_layL xs h
  | .dict _, h => by simp [PyData.canLay0] at h
theorem noDict_layL : ∀ ds : List PyData, PyData.canLayAll0 ds = true → PyData.hasDictAll ds = false
  | [], _ => rfl
  | x :: xs, h => by
    simp only [PyData.canLayAll0, Bool.and_eq_true] at h
    simp [PyData.hasDictAll, noDict_lay x h.1, noDict_layL xs h.2]
end
theorem call_reprD (hu : X.A.units + 65 < cLine) (hg : X.A.guards = some []) : CallR X (.builtin "repr") (rReprD X.K) := by
  intro pins s σ H xs us Q I r h
  obtain ⟨x, d, rfl, hd, hcl, hs, hz, h60, q⟩ := h
  obtain ⟨u, rfl, rx⟩ := vals1 r
  obtain ⟨as, rd⟩ := Dp.reads I d x u hd rx
  have go : ∀ a, u = .ref a → d.canLay0 = true → wpAny (model X.prog X.w) X.A (call (.builtin "repr") [u]) (EP X pins σ Q) X.xe s := fun a e hc => by
    subst e
    exact repr_of_reads' rd hs (PyData.noDict_hsm (noDict_lay d hc)) hg (by omega) (fun _ _ e => e) (fun h' u tk hk => ⟨.str d.shown, H, I.kept hk, ⟨u, rfl⟩, q⟩) hz
  cases hd with
  | non =>
    cases rx
    exact PySem.P.repr_of_none ⟨.str _, H, I.tok _, ⟨_, rfl⟩, q⟩
  | bl b =>
    cases rx
    exact PySem.P.repr_of_bool ⟨.str _, H, I.tok _, ⟨_, rfl⟩, by cases b <;> exact q⟩
  | int i =>
    obtain ⟨t, rfl⟩ := rx
    exact PySem.P.repr_of_int (by simpa [PyData.showable] using hs) ⟨.str _, H, I.tok _, ⟨_, rfl⟩, q⟩
  | str z =>
    obtain ⟨t, rfl⟩ := rx
    exact PySem.P.repr_of_str ⟨.str _, H, I.tok _, ⟨_, rfl⟩, q⟩ hz
  | lst h a => exact go _ (show u = Value.ref _ from rx) hcl
  | tup h a => exact go _ (show u = Value.ref _ from rx) hcl
end
end DV

set_option Elab.async false
set_option linter.all false
set_option maxRecDepth 100000
set_option maxHeartbeats 2000000
namespace DV
open PySem L2 PySem.Spec
open PyProof.Rows hiding St

/-! ### t[::-1] of a tuple -/
section
variable {prog : Program} {w : World} {A : Around} {E : Value → Shared → Prop} {s : Shared}
theorem rev_adjust (n : Nat) : Builtin.Slice.sliceAdjust none none (-1) (n : Int) = ((n : Int) - 1, -1) := by
  unfold Builtin.Slice.sliceAdjust
  simp
theorem rev_places (n : Nat) : Builtin.Slice.slicePlaces ((n : Int) - 1) (-1) (-1) = n := by
  unfold Builtin.Slice.slicePlaces
  simp
  omega
theorem rev_pick (xs : Array Value) : ((List.range xs.size).filterMap fun (m : Nat) => xs[((xs.size : Int) - 1 + (m : Int) * (-1)).toNat]?).toArray = xs.toList.reverse.toArray := by
  have h := HT.pick_gen xs.toList.reverse.toArray 0 xs.size
  rw [List.drop_zero, List.take_of_length_le (by simp)] at h
  rw [← h]
  have cg : ∀ (l : List Nat) (f g : Nat → Option Value), (∀ m ∈ l, f m = g m) → l.filterMap f = l.filterMap g := fun l f g => by
    induction l with
    | nil => exact fun _ => rfl
    | cons a l ih =>
      intro hh
      rw [List.filterMap_cons, List.filterMap_cons, hh a List.mem_cons_self, ih fun m hm => hh m (List.mem_cons_of_mem _ hm)]
  refine congrArg List.toArray (cg _ _ _ fun m hm => ?_)
  have hlt := List.mem_range.mp hm
  have e1 : ((xs.size : Int) - 1 + (m : Int) * (-1)).toNat = xs.size - 1 - m := by omega
  have e2 : (((0 : Nat) : Int) + (m : Int) * 1).toNat = m := by omega
  rw [e1, e2]
  show xs[xs.size - 1 - m]? = xs.toList.reverse.toArray[m]?
  rw [List.getElem?_toArray (xs := xs.toList.reverse), List.getElem?_reverse (by simpa using hlt), Array.length_toList, Array.getElem?_toList]
theorem rev_applied {sl : Addr} {vs : Value} {n : Nat} {Q : Int × Int × Nat → Shared → Prop} (hs : s.heap.IsSliceOf sl .none .none vs) (ps : IsPart vs (some (-1))) (h : Q ((n : Int) - 1, -1, n) s) : wpAny (model prog w) A (Builtin.Slice.sliceApplied (.ref sl) (pure (n : Int))) Q E s := by
  obtain ⟨o, ho, _, hd⟩ := id hs
  unfold Builtin.Slice.sliceApplied Builtin.Slice.sliceFields
  refine wpAny_bind (wpAny_bind (wpAny_field ho hd (x := .none) rfl (wpAny_bind (wpAny_field ho hd (x := .none) rfl (wpAny_bind (wpAny_field ho hd (x := vs) rfl (wpAny_pure ?_)))))))
  refine wpAny_bind (HT.slicePart_ ps ?_)
  show wpAny _ _ (if ((-1 : Int) == 0) = true then _ else _) _ _ s
  rw [if_neg (by decide)]
  refine wpAny_bind (slicePart_none (wpAny_bind (slicePart_none (wpAny_bind (wpAny_pure ?_)))))
  show wpAny _ _ (match Builtin.Slice.sliceAdjust none none (-1) (n : Int) with | (lo, hi) => pure (lo, (-1 : Int), Builtin.Slice.slicePlaces lo hi (-1))) _ _ s
  rw [rev_adjust n]
  show wpAny _ _ (pure ((n : Int) - 1, (-1 : Int), Builtin.Slice.slicePlaces ((n : Int) - 1) (-1) (-1))) _ _ s
  rw [rev_places]
  exact wpAny_pure h
theorem getItem_tuple_rev {t sl : Addr} {items : Array Value} {vs : Value} {Q : Value → Shared → Prop} (ht : IsTup s.heap t items) (hs : s.heap.IsSliceOf sl .none .none vs) (ps : IsPart vs (some (-1)))
    (h : Q (.ref s.heap.objs.size) { s with heap := s.heap.push { cls := .type "tuple", data := .seq items.toList.reverse.toArray } }) (hz : items.size ≤ sizeLine) : wpAny (model prog w) A (getItem (.ref t) (.ref sl)) Q E s := by
  obtain ⟨o, ho, hc, hd⟩ := id hs
  have ty : s.TypeIs (.ref sl) "slice" := ⟨o, ho, hc⟩
  have hfit : sizeOk (.seq items.toList.reverse.toArray) := by
    show items.toList.reverse.toArray.size ≤ sizeLine
    rw [List.size_toArray, List.length_reverse, Array.length_toList]
    exact hz
  unfold getItem
  try with_reducible refine wpAny_holding ?_
  first | refine wpAny_bind (wpAny_pure ?_) | skip
  refine wpAny_bind (wpAny_sequenceKey ht.typeIs (by decide) ?_)
  refine wpAny_bind (wpAny_callSpecial?_slot (name := Str.ofString "__getitem__") ht.typeIs PyProof.Rows.slot_tuple_getitem (wpAny_call_entry PyProof.Rows.slot_tuple_getitem ht.typeIs entry_tuple_getitem ?_ (args_tuple_getitem _ _)))
  show wpAny _ _ (Builtin.Tuple.tupleItemsOf (.ref t) >>= _) _ _ s
  refine wpAny_bind (tupleItemsOf_ ht (wpAny_bind (wpAny_typeOf ty ?_)))
  rw [if_pos (by decide)]
  refine wpAny_bind (rev_applied hs ps ?_)
  show wpAny _ _ (if ((((items.size : Int) - 1 == 0) && ((-1 : Int) == 1) && items.size == items.size) = true) then _ else _) _ _ s
  rw [if_neg (by simp), rev_pick]
  first
    | exact wpAny_bind (m := Builtin.Tuple.tupleExact _) (wpAny_newObj_type (wpAny_pure ⟨_, rfl, wpAny_pure h⟩) hfit)
    | exact wpAny_bind (m := Builtin.Tuple.tupleExact _) (wpAny_newObj_type (wpAny_bind (wpAny_pure (wpAny_pure ⟨_, rfl, wpAny_pure h⟩))) hfit)
    | exact wpAny_bind (wpAny_bind (m := Builtin.Tuple.tupleExact _) (wpAny_newObj_type (wpAny_pure (wpAny_pure ⟨_, rfl, wpAny_pure h⟩)) hfit))
    | exact wpAny_bind (wpAny_bind (m := Builtin.Tuple.tupleExact _) (wpAny_newObj_type (wpAny_pure ⟨_, rfl, wpAny_pure h⟩) hfit))
end
end DV
namespace DV
open PySem L2 PySem.Spec
open PyProof.Rows hiding St
section
variable {X : Cx}
/-- x[::-1] of a list, a tuple -/
def tRevA (K : PySem.W.Frag) (te : TE) : TE := fun σ H Q => te σ H fun x H1 => ∃ a xs, x = .ref a ∧ ((SqL K H1 a xs ∧ ∀ p, H1 p = none → Q (.ref p) (upd H1 p (.lst xs.reverse))) ∨ (SqT K H1 a xs ∧ ∀ p, H1 p = none → Q (.ref p) (upd H1 p (.tup xs.reverse))))
theorem pe_revA {e : Expr} {te : TE} {k : Nat} {p1 p2 p3 pos : Pos} (he : PE X e te) : PE X (.Subscript e (.Slice none none (some (.UnaryOp .USub (.Constant (.int 1) k p1) p2)) p3) pos) (tRevA X.K te) := by
  refine ⟨fun pins s σ H Q I want => Subscript_ (thn (he.run pins s σ H _ I want) fun v s1 got => ?_)⟩
  obtain ⟨x, H1, I1, r1, a, xs, ex, both⟩ := got
  subst ex
  cases r1
  have step : PO X (some (.UnaryOp .USub (.Constant (.int 1) k p1) p2)) (tPart (tUn (rU fun i => .int (-i)) (tC (.int 1)))) := po_some (pe_un un_neg pe_int)
  refine wpAny_Slice (thn (po_none.run pins s1 σ H1 (fun o h => o = none ∧ h = H1) I1 ⟨rfl, rfl⟩) fun vl s2 got => ?_)
  obtain ⟨_, _, I2, pl, rfl, rfl⟩ := got
  refine thn (po_none.run pins s2 σ _ (fun o h => o = none ∧ h = _) I2 ⟨rfl, rfl⟩) fun vu s3 got => ?_
  obtain ⟨_, _, I3, pu, rfl, rfl⟩ := got
  refine thn (step.run pins s3 σ _ (fun o h => o = some (-1) ∧ h = _) I3 ⟨1, rfl, -1, rfl, rfl, rfl⟩) fun vs s4 got => ?_
  obtain ⟨_, H4, I4, ps, rfl, rfl⟩ := got
  cases pl
  cases pu
  have I5 : Inv X pins σ H4 { s4 with heap := s4.heap.push { cls := .type "slice", data := .fields #[.none, .none, vs] } } := I4.kept (t' := s4.toks) fun b ob q => Heap.get?_push_of_some _ q
  have sl := Heap.IsSliceOf.new s4.heap Value.none Value.none vs
  show wpAny (model X.prog X.w) X.A (subscriptTail e (.Slice none none (some (.UnaryOp .USub (.Constant (.int 1) k p1) p2)) p3) (.ref a) (.ref s4.heap.objs.size)) (EP X pins σ Q) X.xe { s4 with heap := s4.heap.push { cls := .type "slice", data := .fields #[.none, .none, vs] } }
  rcases both with ⟨hx, q⟩ | ⟨hx, q⟩
  · obtain ⟨its, r, ht, hz⟩ := I5.list hx
    have hlen := r.length
    refine tail_any (ops := [.ref a, .ref s4.heap.objs.size]) ht.isList.typeIs PySem.slot_list_getitem.lookup ?_ (by with_unfolding_all rfl)
    refine wpAny_getItem_list_slice ht.isList sl .none .none ps (by decide) ?_ (by rw [List.size_toArray]; omega)
    rw [PySem.W.krv_pick]
    exact ⟨.ref _, _, I5.laid (t' := s4.toks) (o := .lst xs.reverse) (fun b ob q => Heap.get?_push_of_some _ q) (Nat.le_refl _) ⟨by rw [List.length_reverse]; exact hz, _, 0, r.reverse, Heap.get?_push_size _ rfl⟩, rfl, q _ (I5.hok.fresh (Nat.le_refl _))⟩
  · obtain ⟨its, r, ht, hz⟩ := I5.tuple hx
    have hlen := r.length
    refine tail_any (ops := [.ref a, .ref s4.heap.objs.size]) ht.typeIs slot_tuple_getitem.lookup ?_ (by with_unfolding_all rfl)
    refine getItem_tuple_rev ht sl ps ?_ (by rw [List.size_toArray]; omega)
    exact ⟨.ref _, _, I5.laid (t' := s4.toks) (o := .tup xs.reverse) (fun b ob q => Heap.get?_push_of_some _ q) (Nat.le_refl _) ⟨by rw [List.length_reverse]; exact hz, _, r.reverse, _, Heap.get?_push_size _ rfl, rfl, 0, rfl⟩, rfl, q _ (I5.hok.fresh (Nat.le_refl _))⟩
end
end DV

set_option Elab.async false
set_option linter.all false
set_option maxRecDepth 100000
set_option maxHeartbeats 2000000
namespace DV
open PySem L2 PySem.Spec
open PyProof.Rows hiding St

/-! ### for k, v in d.items(), tuple keys -/
/-- the pairs of the locked dict at d, each a new tuple -/
def ItiT (d : Addr) (o : Obj) (kvs : List (List Key × V)) : It :=
  ⟨fun i H => H d = some (.frz o (.dT kvs)) ∧ i < kvs.length, fun i H x H' => ∃ (T q : Addr) (k : List Key) (v : V), kvs[i]? = some (k, v) ∧ H q = some (.tup (k.map kV)) ∧ x = .ref T ∧ H T = none ∧ H' = upd H T (.tup [.ref q, v]), fun i H => H d = some (.frz o (.dT kvs)) ∧ kvs.length ≤ i⟩
section
variable {X : Cx} {pins : List (Addr × Obj)} {σ : L2.St} {H : Hp} {s : Shared} {d : Addr} {o : Obj}
theorem frzT_all {kvs : List (List Key × V)} (I : Inv X pins σ H s) (h : H d = some (.frz o (.dT kvs))) :
    (d == sysModules) = false ∧ s.heap.get? d = some o ∧ o.ExactDict ∧ ∃ (es : Array DictEntry) (ep : Nat), o.data = .dict es ep ∧ es.size = kvs.length ∧
      ∀ (i : Nat) (k : List Key) (v : V), kvs[i]? = some (k, v) → ∃ (en : DictEntry) (q : Addr), es[i]? = some en ∧ en.key = .ref q ∧ H q = some (.tup (k.map kV)) ∧ RelV v en.val := by
  obtain ⟨hd, z, hs, xs, pr, o', es, ep, ho, hx, hdt, he, _⟩ := I.hok d _ h
  rw [hd] at ho
  cases ho
  refine ⟨hs, hd, hx, es, ep, hdt, ?_, fun i k v e => ?_⟩
  · rw [size_of_entries he]
    exact (Paired.length pr).symm
  · obtain ⟨b, hb, e1, e2, e3⟩ := paired_get pr e
    have at_ := entry_at he i
    rw [hb] at at_
    exact ⟨_, b.2.1, at_, rfl, e2, e3⟩
end
section
variable {P : Program} {w : World} {K : PySem.W.Frag} {d : Addr} {o : Obj} {es : Array DictEntry} {ep : Nat}
theorem turn_itemsT {kvs : List (List Key × V)} {elts : List Expr} {kk : Nat} {tpos : Pos} (it : Addr) (hod : o.data = .dict es ep) :
    Turn P w K (.Tuple elts kk tpos) (ItiT d o kvs) [it] it (fun i h => ∃ ok ov, IsItemIter h it d i kvs.length ep ok ov) where
  mem := List.mem_singleton.mpr rfl
  obj := fun i h st b hb => by
    obtain ⟨ok, ov, e⟩ := st
    cases List.mem_singleton.mp hb
    exact ⟨_, e, fun v z => nomatch z⟩
  keep := fun i h h' st k => let ⟨ok, ov, e⟩ := st; ⟨ok, ov, k it (List.mem_singleton.mpr rfl) _ e⟩
  item := by
    intro X hP hw hK hc i pins s σ H E I free st go
    subst hP hw hK
    obtain ⟨locked, hi⟩ := go
    obtain ⟨hs, hgd, hx, es', ep', hdt, hsz, ent⟩ := frzT_all I locked
    obtain ⟨rfl, rfl⟩ := dict_ep hod hdt
    obtain ⟨⟨k, v⟩, hkv⟩ : ∃ p, kvs[i]? = some p := ⟨kvs[i], List.getElem?_eq_getElem hi⟩
    obtain ⟨en, q, hen, ekey, hq, rv⟩ := ent i k v hkv
    obtain ⟨ok, ov, he⟩ := st
    rw [← hsz] at he
    have hlt := Heap.lt_size he
    have hie : i < es'.size := by rw [hsz]; exact hi
    have een : es'[i] = en := by
      rw [Array.getElem?_eq_getElem hie] at hen
      exact Option.some.inj hen
    refine DT.nextI he ⟨o, hgd, hx, hdt⟩ hie fun h' out tup _ old => ?_
    rw [een, ekey] at out tup
    refine ⟨_, rfl, wpAny_letOwnedTupleGo_items (s := { s with heap := h' }) out fun h'' he' sb => ?_⟩
    have tup2 := (sb.2 _ (Nat.ne_of_gt hlt)).trans tup
    have new : ObjOk X.prog X.w (upd H s.heap.objs.size (.tup [.ref q, v])) h'' s.heap.objs.size (.tup [.ref q, v]) :=
      ⟨by show 2 ≤ sizeLine; decide, [.ref q, en.val], .cons rfl (.cons rv .nil), ⟨_, tup2, rfl, _, rfl⟩⟩
    have J : Inv X pins σ (upd H s.heap.objs.size (.tup [.ref q, v])) { s with heap := h'' } :=
      I.turnedNew (t' := s.toks) (ch := [it]) (fun b ob hb e => (sb.2 b (fun z => hb (List.mem_singleton.mpr z))).trans (old b ob (fun z => hb (List.mem_singleton.mpr z)) e)) free (Nat.le_refl _) new
    refine ⟨.ref s.heap.objs.size, _, J, rfl, ⟨_, q, k, v, hkv, hq, rfl, I.hok.fresh (Nat.le_refl _), rfl⟩, ⟨.ref q, en.val, by rw [← hsz]; exact he'⟩, fun b hb => ?_⟩
    cases List.mem_singleton.mp hb
    rw [upd_ne (Nat.ne_of_lt hlt)]
    exact (free it (List.mem_singleton.mpr rfl)).1
  done := by
    intro X hP hw hK hc i pins s σ H E I free st stop
    subst hP hw hK
    obtain ⟨locked, hi⟩ := stop
    obtain ⟨f0, f1, f2, f3, f4, f5⟩ := free it (List.mem_singleton.mpr rfl)
    obtain ⟨hs, hgd, hx, es', ep', hdt, hsz, ent⟩ := frzT_all I locked
    obtain ⟨rfl, rfl⟩ := dict_ep hod hdt
    obtain ⟨ok, ov, he⟩ := st
    rw [← hsz] at he
    exact DT.endI (I.ok.hd hc) he ⟨o, hgd, hx, hdt⟩ (by rw [hsz]; exact hi) fun h' eb => ⟨rfl, I.turned (t' := s.toks) (fun b ob hb e => eb b ob hb e) f0 f1 f3 f4 f5⟩
  self := fun A i s Q E st h => let ⟨_, _, e⟩ := st; PySem.W.kcp_self e h
/-- the dict is locked -/
def iItemsT (td : TE) : TI := fun σ H R => td σ H fun x H1 => ∃ d o kvs, x = .ref d ∧ H1 d = some (.frz o (.dT kvs)) ∧ R (ItiT d o kvs) H1
theorem pi_itemsT {X : Cx} {e : Expr} {td : TE} {apos cpos : Pos} {elts : List Expr} {kk : Nat} {tpos : Pos} (he : PE X e td) (hbase : attributeBase e "items" X.env (eval e X.env) = eval e X.env := by rfl) (hline : (apos.endLine == cpos.line) = true := by rfl) :
    PI X (.Tuple elts kk tpos) (.Call (.Attribute e "items" apos) [] [] cpos) (iItemsT td) := by
  refine ⟨fun pins s σ H R I want => ?_⟩
  refine wpAny_Call_method (T := "dict") (id := "dict.items") hbase rfl hline PySem.F.plainAttrs_dict PySem.F.slot_dict_items PySem.F.type_dict_items (thn (he.run pins s σ H _ I want) fun u s1 got => ?_)
  obtain ⟨x, H1, I1, rx, d, o, kvs, ex, locked, q⟩ := got
  subst ex
  obtain rfl : u = Value.ref d := rx
  obtain ⟨hs, hgd, hx, es, ep, hdt, hsz, ent⟩ := frzT_all I1 locked
  have raw : DT.Raw s1.heap d es ep := ⟨o, hgd, hx, hdt⟩
  refine ⟨raw.typeIs, fun b q => by cases q; exact ⟨o, hgd, hx.2.1⟩, ?_⟩
  have I2 : Inv X pins σ H1 { s1 with heap := s1.heap.push { cls := .type "dict_items", data := .fields #[.ref d] } } := I1.kept (t' := s1.toks) fun b ob q => Heap.get?_push_of_some _ q
  have fin : wpAny (model X.prog X.w) X.A (pyIter (.ref s1.heap.objs.size)) (PIE X pins σ (.Tuple elts kk tpos) R) X.xe { s1 with heap := s1.heap.push { cls := .type "dict_items", data := .fields #[.ref d] } } := by
    refine DT.iterI (d := d) (es := es) (ep := ep) ⟨_, Heap.get?_push_size _ rfl, rfl, rfl⟩ (raw.push _) (pi_one (tk := s1.toks) I2 _ (turn_itemsT _ hdt) ⟨.none, .none, ?_⟩ q)
    rw [← hsz]
    exact Heap.get?_push_size _ rfl
  show wpAny _ _ (callWith cpos (.builtin "dict.items") [.ref d] [] []) _ X.xe s1
  exact method_meetsIn PySem.F.slot_dict_items PySem.F.entry_dict_items rfl (PySem.evalArgs_none ⟨rfl, raw.typeIs, PySem.F.args_dict_items_1 _, _, DT.meetsItems (es := es) (ep := ep) hs, ⟨raw, fin⟩⟩)
end
end DV

set_option Elab.async false
set_option linter.all false
set_option maxRecDepth 100000
set_option maxHeartbeats 2000000
namespace DV
open PySem L2 PySem.Spec
open PyProof.Rows hiding St

/-! ### walks over dicts -/
def entsD : PyData → Option (List (PyData × PyData))
  | .dict ((.none, .none) :: kvs) => some kvs
  | .dict ((.none, _) :: _) => none
  | .dict kvs => some kvs
  | _ => none
/-- keys as texts or numbers -/
def entsK : PyData → Option (List (PyData × PyData))
  | .dict ((.none, _) :: _) => none
  | .dict kvs => some kvs
  | _ => none
def walkD (ent : PyData → Option (List (PyData × PyData))) (pr : PyData × PyData → PyData) (i : Nat) : Env → Rs (List PyData) := fun env => match env[i]? with
  | some (some d) => match ent d with
    | some kvs => .ok (kvs.map pr) env
    | none => .bad
  | _ => .bad
abbrev prItem (p : PyData × PyData) : PyData := .tuple [p.1, p.2]
abbrev prKey (p : PyData × PyData) : PyData := p.1
abbrev prVal (p : PyData × PyData) : PyData := p.2
/-- the slot's dict is locked -/
def Lkd (i : Nat) : L2.St → Hp → Prop := fun σ H => ∃ a o u, σ[i]? = some (some (.ref a)) ∧ H a = some (.frz o u) ∧ isD u = true
section
variable {K : PySem.W.Frag} {H : Hp} {d : Addr} {o : Obj} {ds : List PyData} {F : List Addr}
theorem rep_key {k : Key} : Rep K H (kV k) (keyD k) [] := by
  cases k with
  | inl i => exact .int i
  | inr x => exact .str x
theorem rep_keys : ∀ k : List Key, RepL K H (k.map kV) (k.map keyD) []
  | [] => .nil
  | k :: r => .cons rep_key (rep_keys r)
theorem zip_at' {κ : Type} {enc : κ → PyData} {kvs : List (κ × V)} {i : Nat} {p : PyData × PyData} (h : ((kvs.map fun p => enc p.1).zip ds)[i]? = some p) : ∃ k v, kvs[i]? = some (k, v) ∧ p.1 = enc k ∧ ds[i]? = some p.2 := by
  rw [List.getElem?_zip_eq_some] at h
  obtain ⟨h1, h2⟩ := h
  rw [List.getElem?_map] at h1
  cases e : kvs[i]? with
  | none =>
    rw [e] at h1
    cases h1
  | some q =>
    rw [e] at h1
    simp only [Option.map_some, Option.some.injEq] at h1
    exact ⟨q.1, q.2, rfl, h1.symm, h2⟩
def HoldK (K : PySem.W.Frag) (d : Addr) (o : Obj) (kvs : List (Key × V)) (ds : List PyData) (F : List Addr) : Hp → Prop := fun H => H d = some (.frz o (.dK kvs)) ∧ RepL K H (kvs.map (·.2)) ds F
def HoldT (K : PySem.W.Frag) (d : Addr) (o : Obj) (kvs : List (List Key × V)) (ds : List PyData) (F : List Addr) : Hp → Prop := fun H => H d = some (.frz o (.dT kvs)) ∧ RepL K H (kvs.map (·.2)) ds F
theorem HoldK.keep {kvs : List (Key × V)} : ∀ (H H' : Hp) (w : Addr → Prop), HoldK K d o kvs ds F H → Keep w H H' → (∀ a, w a → MutA H a) → (∀ a ∈ d :: F, ¬ w a) → HoldK K d o kvs ds F H' := fun H H' w h k hw hn =>
  ⟨k _ _ h.1 (hn d List.mem_cons_self), h.2.keep k hw fun a m => hn a (List.mem_cons_of_mem _ m)⟩
theorem HoldT.keep {kvs : List (List Key × V)} : ∀ (H H' : Hp) (w : Addr → Prop), HoldT K d o kvs ds F H → Keep w H H' → (∀ a, w a → MutA H a) → (∀ a ∈ d :: F, ¬ w a) → HoldT K d o kvs ds F H' := fun H H' w h k hw hn =>
  ⟨k _ _ h.1 (hn d List.mem_cons_self), h.2.keep k hw fun a m => hn a (List.mem_cons_of_mem _ m)⟩
theorem val_at {κ : Type} {kvs : List (κ × V)} {i : Nat} {k : κ} {v : V} {y : PyData} (l : RepL K H (kvs.map (·.2)) ds F) (h1 : kvs[i]? = some (k, v)) (h2 : ds[i]? = some y) : ∃ G, Rep K H v y G ∧ ∀ a ∈ G, a ∈ F :=
  l.at (by rw [List.getElem?_map, h1]; rfl) h2
theorem len_zip {κ : Type} [DecidableEq κ] {kvs : List (κ × V)} {enc : κ → PyData} (l : RepL K H (kvs.map (·.2)) ds F) (pr : PyData × PyData → PyData) : (((kvs.map fun p => enc p.1).zip ds).map pr).length = kvs.length := by
  rw [List.length_map]
  exact putK_len l enc
theorem it_itemsK {kvs : List (Key × V)} (hl : ds.length = kvs.length) : ItOk K (Iti d o kvs) (((kvs.map fun p => keyD p.1).zip ds).map prItem) (HoldK K d o kvs ds F) (d :: F) F := by
  refine ⟨fun i H h hi => ⟨h.1, by rw [len_zip h.2] at hi; exact hi⟩, fun i H h hi => ⟨h.1, by rw [len_zip h.2] at hi; omega⟩, fun i H x H' y h hy hd => ?_, HoldK.keep⟩
  obtain ⟨T, k, v, e, rfl, nT, rfl⟩ := hy
  rw [List.getElem?_map, Option.map_eq_some_iff] at hd
  obtain ⟨p, hp, rfl⟩ := hd
  obtain ⟨k', v', e1, e2, e3⟩ := zip_at' hp
  rw [e] at e1
  cases e1
  obtain ⟨G, r, s⟩ := val_at h.2 e e3
  have sm := same_new (o := .tup [kV k, v]) nT
  refine ⟨sm, [] ++ (G ++ []), .tup upd_same (.cons ?_ (.cons (r.same sm) .nil)), fun a m => s a (by simpa using m)⟩
  rw [e2]
  exact rep_key
theorem it_itemsT {kvs : List (List Key × V)} (hl : ds.length = kvs.length) : ItOk K (ItiT d o kvs) (((kvs.map fun p => DV.keyT p.1).zip ds).map prItem) (HoldT K d o kvs ds F) (d :: F) F := by
  refine ⟨fun i H h hi => ⟨h.1, by rw [len_zip h.2] at hi; exact hi⟩, fun i H h hi => ⟨h.1, by rw [len_zip h.2] at hi; omega⟩, fun i H x H' y h hy hd => ?_, HoldT.keep⟩
  obtain ⟨T, q, k, v, e, hq, rfl, nT, rfl⟩ := hy
  rw [List.getElem?_map, Option.map_eq_some_iff] at hd
  obtain ⟨p, hp, rfl⟩ := hd
  obtain ⟨k', v', e1, e2, e3⟩ := zip_at' hp
  rw [e] at e1
  cases e1
  obtain ⟨G, r, s⟩ := val_at h.2 e e3
  have sm := same_new (o := .tup [.ref q, v]) nT
  refine ⟨sm, [] ++ (G ++ []), .tup upd_same (.cons ?_ (.cons (r.same sm) .nil)), fun a m => s a (by simpa using m)⟩
  rw [e2]
  exact .tup (sm _ _ hq) (rep_keys k)
theorem it_keysK {kvs : List (Key × V)} (hl : ds.length = kvs.length) : ItOk K (Itk d o kvs) (((kvs.map fun p => keyD p.1).zip ds).map prKey) (HoldK K d o kvs ds F) (d :: F) F := by
  refine ⟨fun i H h hi => ⟨h.1, by rw [len_zip h.2] at hi; exact hi⟩, fun i H h hi => ⟨h.1, by rw [len_zip h.2] at hi; omega⟩, fun i H x H' y h hy hd => ?_, HoldK.keep⟩
  obtain ⟨rfl, k, v, e, rfl⟩ := hy
  rw [List.getElem?_map, Option.map_eq_some_iff] at hd
  obtain ⟨p, hp, rfl⟩ := hd
  obtain ⟨k', v', e1, e2, e3⟩ := zip_at' hp
  rw [e] at e1
  cases e1
  refine ⟨Same.refl _, [], ?_, fun _ m => nomatch m⟩
  show Rep K H' (kV k) p.1 []
  rw [e2]
  exact rep_key
theorem it_keysT {kvs : List (List Key × V)} (hl : ds.length = kvs.length) : ItOk K (Itkt d o kvs) (((kvs.map fun p => DV.keyT p.1).zip ds).map prKey) (HoldT K d o kvs ds F) (d :: F) F := by
  refine ⟨fun i H h hi => ⟨h.1, by rw [len_zip h.2] at hi; exact hi⟩, fun i H h hi => ⟨h.1, by rw [len_zip h.2] at hi; omega⟩, fun i H x H' y h hy hd => ?_, HoldT.keep⟩
  obtain ⟨rfl, k, v, q, e, rfl, hq⟩ := hy
  rw [List.getElem?_map, Option.map_eq_some_iff] at hd
  obtain ⟨p, hp, rfl⟩ := hd
  obtain ⟨k', v', e1, e2, e3⟩ := zip_at' hp
  rw [e] at e1
  cases e1
  refine ⟨Same.refl _, [], ?_, fun _ m => nomatch m⟩
  show Rep K H' (.ref q) p.1 []
  rw [e2]
  exact .tup hq (rep_keys k)
theorem it_valsK {kvs : List (Key × V)} (hl : ds.length = kvs.length) : ItOk K (Itd d o kvs) (((kvs.map fun p => keyD p.1).zip ds).map prVal) (HoldK K d o kvs ds F) (d :: F) F := by
  refine ⟨fun i H h hi => ⟨h.1, by rw [len_zip h.2] at hi; exact hi⟩, fun i H h hi => ⟨h.1, by rw [len_zip h.2] at hi; omega⟩, fun i H x H' y h hy hd => ?_, HoldK.keep⟩
  obtain ⟨rfl, k, e⟩ := hy
  rw [List.getElem?_map, Option.map_eq_some_iff] at hd
  obtain ⟨p, hp, rfl⟩ := hd
  obtain ⟨k', v', e1, e2, e3⟩ := zip_at' hp
  rw [e] at e1
  cases e1
  obtain ⟨G, r, s⟩ := val_at h.2 e e3
  exact ⟨Same.refl _, G, r, s⟩
end
section
variable {C : Ct} {U Rv : List Nat} {tg : Expr} {i : Nat} {x : Str}
/-- the locked dict of a slot, as its kind tells -/
theorem lkd_cases {K : PySem.W.Frag} {H0 : Hp} {M U : List Nat} {σ : L2.St} {H : Hp} {env : Env} {Fs : Nat → List Addr} {d : PyData} {kvs' : List (PyData × PyData)} (R : EnvR K H0 M U σ H env Fs) (pre : Lkd i σ H) (e : env[i]? = some (some d)) (h : entsD d = some kvs') :
    ∃ a o ds F, σ[i]? = some (some (.ref a)) ∧ Fs i = a :: F ∧ ((∃ kvs : List (Key × V), HoldK K a o kvs ds F H ∧ entsK d = some kvs' ∧ kvs' = (kvs.map fun p => keyD p.1).zip ds ∧ ds.length = kvs.length) ∨ ∃ kvs : List (List Key × V), HoldT K a o kvs ds F H ∧ entsK d = none ∧ kvs' = (kvs.map fun p => DV.keyT p.1).zip ds ∧ ds.length = kvs.length) := by
  obtain ⟨a, o, u, e1, e2, e3⟩ := pre
  obtain ⟨v, ev, r⟩ := R.rep i d e
  rw [e1] at ev
  cases ev
  generalize hF : Fs i = Fi at r
  cases r with
  | @dctK _ kvs ds F rd l =>
    have lk : H a = some (.frz o (.dK kvs)) := by
      rcases rd with q | ⟨o', q⟩ <;> rw [e2] at q <;> cases q
      exact e2
    have ln : ds.length = kvs.length := by
      have := l.length
      rw [List.length_map] at this
      exact this.symm
    have hk : entsK (.dict ((kvs.map fun p => keyD p.1).zip ds)) = some ((kvs.map fun p => keyD p.1).zip ds) := by
      unfold entsK
      split
      · rename_i z
        simp only [PyData.dict.injEq] at z
        exact (zip_key keyD_ne z).elim
      · rename_i z
        simp only [PyData.dict.injEq] at z
        rw [z]
      · exfalso
        rename_i z
        exact z _ rfl
    have hd : entsD (.dict ((kvs.map fun p => keyD p.1).zip ds)) = some ((kvs.map fun p => keyD p.1).zip ds) := by
      unfold entsD
      split
      · rename_i z
        simp only [PyData.dict.injEq] at z
        exact (zip_key keyD_ne z).elim
      · rename_i z
        simp only [PyData.dict.injEq] at z
        exact (zip_key keyD_ne z).elim
      · rename_i z
        simp only [PyData.dict.injEq] at z
        rw [z]
      · exfalso
        rename_i z
        exact z _ rfl
    rw [hd] at h
    cases h
    exact ⟨a, o, ds, F, e1, rfl, .inl ⟨kvs, ⟨lk, l⟩, hk, rfl, ln⟩⟩
  | @dctT _ kvs ds F rd l =>
    have lk : H a = some (.frz o (.dT kvs)) := by
      rcases rd with q | ⟨o', q⟩ <;> rw [e2] at q <;> cases q
      exact e2
    have ln : ds.length = kvs.length := by
      have := l.length
      rw [List.length_map] at this
      exact this.symm
    cases h
    exact ⟨a, o, ds, F, e1, rfl, .inr ⟨kvs, ⟨lk, l⟩, rfl, rfl, ln⟩⟩
  | con _ => cases h
  | tup _ _ => cases h
  | lst _ _ => cases h
  | frz _ => cases h
  | lsc _ => cases h
/-- what the four walks have in common -/
theorem walk_go {pr : PyData × PyData → PyData} {ent : PyData → Option (List (PyData × PyData))} {σ : L2.St} {H : Hp} {env : Env} {Fs : Nat → List Addr} {Q : It → Hp → Prop} (hi : i ∉ U) (R : EnvR C.K C.H0 C.M U σ H env Fs) (pre : Lkd i σ H) (hent : ∀ d kvs, ent d = some kvs → entsD d = some kvs)
    (hw : (walkD ent pr i env).wp (fun items env' => ∀ J H' Fs' hold Fh Fi, TPost C U Rv σ H Fs U env' H' Fs' → ItOk C.K J items hold Fh Fi → hold H' → (∀ i ∈ U, i ∉ ([] : List Nat) → ∀ a, σ[i]? = some (some (.ref a)) → a ∉ Fh) → Clean U σ Fi → (∀ a ∈ Fi, (∃ k, a ∈ Fs k) ∨ H a = none) → (∀ a, a ∈ Fi ∨ a ∈ Fh → H' a ≠ none) → Q J H') (EC C)) :
    ∃ d kvs' a o ds F, ent d = some kvs' ∧ σ[i]? = some (some (.ref a)) ∧ ((∃ kvs : List (Key × V), HoldK C.K a o kvs ds F H ∧ entsK d = some kvs' ∧ kvs' = (kvs.map fun p => keyD p.1).zip ds ∧ ds.length = kvs.length) ∨ ∃ kvs : List (List Key × V), HoldT C.K a o kvs ds F H ∧ entsK d = none ∧ kvs' = (kvs.map fun p => DV.keyT p.1).zip ds ∧ ds.length = kvs.length) ∧
      ∀ J hold, ItOk C.K J (kvs'.map pr) hold (a :: F) F → hold H → Q J H := by
  unfold walkD at hw
  split at hw
  · rename_i d e
    split at hw
    · rename_i kvs' he
      obtain ⟨a, o, ds, F, e1, e2, both⟩ := lkd_cases R pre e (hent d _ he)
      refine ⟨d, kvs', a, o, ds, F, he, e1, both, fun J hold ok hh => ?_⟩
      have cl := R.clean_slot hi
      rw [e2] at cl
      have trk : ∀ b, b ∈ a :: F → H b ≠ none := fun b m => R.trk (i := i) (by rw [e2]; exact m)
      exact (show ∀ J H' Fs' hold Fh Fi, TPost C U Rv σ H Fs U env H' Fs' → ItOk C.K J (kvs'.map pr) hold Fh Fi → hold H' → (∀ i ∈ U, i ∉ ([] : List Nat) → ∀ a, σ[i]? = some (some (.ref a)) → a ∉ Fh) → Clean U σ Fi → (∀ a ∈ Fi, (∃ k, a ∈ Fs k) ∨ H a = none) → (∀ a, a ∈ Fi ∨ a ∈ Fh → H' a ≠ none) → Q J H' from hw) J H Fs hold (a :: F) F (TPost.refl R) ok hh (fun j hj _ b eb => cl j hj b eb) (cl.sub fun b m => List.mem_cons_of_mem _ m) (fun b m => .inl ⟨i, by rw [e2]; exact List.mem_cons_of_mem _ m⟩) fun b m => trk b (m.elim (List.mem_cons_of_mem _) id)
    · exact (show False from hw).elim
  · exact (show False from hw).elim
theorem entsK_D : ∀ d kvs, entsK d = some kvs → entsD d = some kvs := fun d kvs h => by
  unfold entsK at h
  split at h
  · cases h
  · rename_i ks hn
    cases h
    unfold entsD
    split
    · rename_i z
      exact (hn _ _ (by simpa using z)).elim
    · rename_i z
      exact (hn _ _ (by simpa using z)).elim
    · rename_i z
      simpa using z.symm
    · rename_i z
      exact absurd rfl (z _)
  · cases h
section
variable (hN : ∀ z, (C.X z).N[i]? = some x) (hv : ∀ z, Vis (C.X z).env.scope x) (hd : (x == ("__debug__" : Str)) = false) (hcd : (x == ("__classdict__" : Str)) = false) (hi : i ∉ U)
include hN hv hd hcd hi
theorem di_items {p apos cpos tpos : Pos} {elts : List Expr} {kk : Nat} (hbase : ∀ z, attributeBase (.Name x p) "items" (C.X z).env (eval (.Name x p) (C.X z).env) = eval (.Name x p) (C.X z).env := by intro _; rfl) (hline : (apos.endLine == cpos.line) = true := by rfl) :
    DIp C (Lkd i) U Rv (.Tuple elts kk tpos) (.Call (.Attribute (.Name x p) "items" apos) [] [] cpos) (walkD entsD prItem i) U [] := by
  refine ⟨fun _ h => h, fun σ H Q => iItems (tVar i) σ H Q ∨ iItemsT (tVar i) σ H Q, fun z => pi_or (pi_items (pe_var (hN z) (hv z) hd hcd) (hbase z) hline) (pi_itemsT (pe_var (hN z) (hv z) hd hcd) (hbase z) hline), fun σ H env Fs Q R pre hw => ?_⟩
  obtain ⟨d, kvs', a, o, ds, F, he, e1, both, k⟩ := walk_go hi R pre (fun _ _ h => h) hw
  rcases both with ⟨kvs, hold, _, rfl, ln⟩ | ⟨kvs, hold, _, rfl, ln⟩
  · exact .inl ⟨_, e1, a, o, kvs, rfl, hold.1, k _ _ (it_itemsK ln) hold⟩
  · exact .inr ⟨_, e1, a, o, kvs, rfl, hold.1, k _ _ (it_itemsT ln) hold⟩
theorem di_keys {p : Pos} : DIp C (Lkd i) U Rv tg (.Name x p) (walkD entsD prKey i) U [] := by
  refine ⟨fun _ h => h, iKeys (tVar i), fun z => pi_keys (pe_var (hN z) (hv z) hd hcd), fun σ H env Fs Q R pre hw => ?_⟩
  obtain ⟨d, kvs', a, o, ds, F, he, e1, both, k⟩ := walk_go hi R pre (fun _ _ h => h) hw
  rcases both with ⟨kvs, hold, _, rfl, ln⟩ | ⟨kvs, hold, _, rfl, ln⟩
  · exact ⟨_, e1, a, o, rfl, .inl ⟨kvs, hold.1, k _ _ (it_keysK ln) hold⟩⟩
  · exact ⟨_, e1, a, o, rfl, .inr ⟨kvs, hold.1, k _ _ (it_keysT ln) hold⟩⟩
theorem di_keysM {p apos cpos : Pos} (hbase : ∀ z, attributeBase (.Name x p) "keys" (C.X z).env (eval (.Name x p) (C.X z).env) = eval (.Name x p) (C.X z).env := by intro _; rfl) (hline : (apos.endLine == cpos.line) = true := by rfl) :
    DIp C (Lkd i) U Rv tg (.Call (.Attribute (.Name x p) "keys" apos) [] [] cpos) (walkD entsK prKey i) U [] := by
  refine ⟨fun _ h => h, iKeysM (tVar i), fun z => pi_keysM (pe_var (hN z) (hv z) hd hcd) (hbase z) hline, fun σ H env Fs Q R pre hw => ?_⟩
  obtain ⟨d, kvs', a, o, ds, F, he, e1, both, k⟩ := walk_go hi R pre entsK_D hw
  rcases both with ⟨kvs, hold, _, rfl, ln⟩ | ⟨kvs, hold, z, _⟩
  · exact ⟨_, e1, a, o, kvs, rfl, hold.1, k _ _ (it_keysK ln) hold⟩
  · rw [he] at z
    cases z
theorem di_vals {p apos cpos : Pos} (hbase : ∀ z, attributeBase (.Name x p) "values" (C.X z).env (eval (.Name x p) (C.X z).env) = eval (.Name x p) (C.X z).env := by intro _; rfl) (hline : (apos.endLine == cpos.line) = true := by rfl) :
    DIp C (Lkd i) U Rv tg (.Call (.Attribute (.Name x p) "values" apos) [] [] cpos) (walkD entsK prVal i) U [] := by
  refine ⟨fun _ h => h, iVals (tVar i), fun z => pi_values (pe_var (hN z) (hv z) hd hcd) (hbase z) hline, fun σ H env Fs Q R pre hw => ?_⟩
  obtain ⟨d, kvs', a, o, ds, F, he, e1, both, k⟩ := walk_go hi R pre entsK_D hw
  rcases both with ⟨kvs, hold, _, rfl, ln⟩ | ⟨kvs, hold, z, _⟩
  · exact ⟨_, e1, a, o, kvs, rfl, hold.1, k _ _ (it_valsK ln) hold⟩
  · rw [he] at z
    cases z
end
end

/-! ### the lock around a walk -/
/-- unlocked at a -/
structure Unl (a : Addr) (od : Obj) (u : HO) (H H' : Hp) : Prop where
  at_ : H a = some (.frz od u)
  to : H' a = some u
  oth : ∀ b, b ≠ a → H' b = H b
  isd : isD u = true
section
variable {a : Addr} {od : Obj} {u : HO} {H H' : Hp} (h : Unl a od u H H')
include h
theorem Unl.rd {b : Addr} {w : HO} (r : Rd H b w) (iw : isD w = true) : Rd H' b w := by
  by_cases z : b = a
  · subst z
    rcases r with r | ⟨o, r⟩
    · rw [h.at_] at r
      cases r
      cases iw
    · rw [h.at_] at r
      cases r
      exact .inl h.to
  · unfold Rd
    rw [h.oth b z]
    exact r
theorem Unl.get {b : Addr} {w : HO} (e : H b = some w) (n : ∀ o v, isD v = true → w ≠ .frz o v) : H' b = some w := by
  by_cases z : b = a
  · subst z
    rw [h.at_] at e
    cases e
    exact absurd rfl (n _ _ h.isd)
  · rw [h.oth b z]
    exact e
theorem Unl.dom {b : Addr} (e : H' b = none) : H b = none := by
  by_cases z : b = a
  · subst z
    rw [h.to] at e
    cases e
  · rw [← h.oth b z]
    exact e
theorem Unl.mut {b : Addr} (m : MutA H b) : MutA H' b := by
  have n : b ≠ a := fun z => by
    subst z
    rcases m with ⟨_, q⟩ | ⟨_, q⟩ | ⟨_, q⟩ <;> rw [h.at_] at q <;> cases q
  unfold MutA
  rw [h.oth b n]
  exact m
theorem Unl.sqT {K : PySem.W.Frag} {b : Addr} {vs : List V} (r : SqT K H b vs) : SqT K H' b vs := by
  rcases r with (r | ⟨o, r⟩) | r
  · exact .inl (.inl (h.get r fun _ _ _ z => nomatch z))
  · exact .inl (.inr ⟨o, h.get r fun _ v iv z => by cases z; cases iv⟩)
  · exact .inr r
end
mutual
theorem Rep.unl {K : PySem.W.Frag} {a : Addr} {od : Obj} {u : HO} {H H' : Hp} (h : Unl a od u H H') : ∀ {v : V} {d : PyData} {F : List Addr}, Rep K H v d F → Rep K H' v d F
  | _, _, _, .non => .non
  | _, _, _, .bl b => .bl b
  | _, _, _, .int i => .int i
  | _, _, _, .str x => .str x
  | _, _, _, .tup r l => .tup (h.get r fun _ _ _ z => nomatch z) (RepL.unl h l)
  | _, _, _, .con r => .con (h.sqT r)
  | _, _, _, .lst e l => .lst (h.get e fun _ _ _ z => nomatch z) (RepL.unl h l)
  | _, _, _, .frz e => .frz (h.get e fun _ v iv z => by cases z; cases iv)
  | _, _, _, .lsc e => .lsc e
  | _, _, _, .dctK r l => .dctK (h.rd r rfl) (RepL.unl h l)
  | _, _, _, .dctT r l => .dctT (h.rd r rfl) (RepL.unl h l)
theorem RepL.unl {K : PySem.W.Frag} {a : Addr} {od : Obj} {u : HO} {H H' : Hp} (h : Unl a od u H H') : ∀ {vs : List V} {ds : List PyData} {F : List Addr}, RepL K H vs ds F → RepL K H' vs ds F
  | _, _, _, .nil => .nil
  | _, _, _, .cons r l => .cons (Rep.unl h r) (RepL.unl h l)
end
theorem EnvR.unl {K : PySem.W.Frag} {H0 : Hp} {M U : List Nat} {σ : L2.St} {H H' : Hp} {env : Env} {Fs : Nat → List Addr} {a : Addr} {od : Obj} {u : HO} (R : EnvR K H0 M U σ H env Fs) (h : Unl a od u H H') (h0 : M = [] → ∀ o, H0 a = some o → o = u) : EnvR K H0 M U σ H' env Fs :=
  ⟨R.len, fun i d e => by
    obtain ⟨v, h1, h2⟩ := R.rep i d e
    exact ⟨v, h1, h2.unl h⟩, fun i hi => by
    obtain ⟨d, b, G, h1, h2, h3, h4, h5, h6, h7, h8⟩ := R.uni i hi
    exact ⟨d, b, G, h1, h2, h3, h4, h5, h6, h.mut h7, h8⟩, R.nil, fun b e => R.dom b (h.dom e), fun e b o eb => by
    by_cases z : b = a
    · subst z
      rw [h0 e o eb]
      exact .inl h.to
    · rw [h.oth b z]
      exact R.kp e b o eb⟩
/-- where a slot's dict is, locked or not -/
theorem dict_at {K : PySem.W.Frag} {H0 : Hp} {M U : List Nat} {σ : L2.St} {H : Hp} {env : Env} {Fs : Nat → List Addr} {d : PyData} {i : Nat} {kvs' : List (PyData × PyData)} (R : EnvR K H0 M U σ H env Fs) (e : env[i]? = some (some d)) (h : entsD d = some kvs') :
    ∃ a u F, σ[i]? = some (some (.ref a)) ∧ Fs i = a :: F ∧ isD u = true ∧ (H a = some u ∨ ∃ o, H a = some (.frz o u)) := by
  obtain ⟨v, ev, r⟩ := R.rep i d e
  generalize hF : Fs i = Fi at r
  cases r with
  | dctK rd l => exact ⟨_, _, _, ev, rfl, rfl, rd⟩
  | dctT rd l => exact ⟨_, _, _, ev, rfl, rfl, rd⟩
  | con _ => cases h
  | tup _ _ => cases h
  | lst _ _ => cases h
  | frz _ => cases h
  | lsc _ => cases h
  | non => cases h
  | bl _ => cases h
  | int _ => cases h
  | str _ => cases h
/-- the dict of slot i is one -/
def isDct (i : Nat) (env : Env) : Prop := ∃ d kvs, env[i]? = some (some d) ∧ entsD d = some kvs
section
variable {C : Ct} {U Rv Un : List Nat} {i : Nat} {x : Ex} {s : Stmt} {f : Env → Rs Fl}
theorem mut_isD {u : HO} (h : isD u = true) : Mut (some u) := by
  cases u <;> first | trivial | cases h
theorem ds_lock (hs : DSp C (Lkd i) U Rv s f Un x) (hi : i ∉ U) (hf : ∀ env, ¬ isDct i env → f env = .bad) : DS C U Rv s f Un x := by
  obtain ⟨t, tp, ts⟩ := hs
  refine ⟨fun D σ H => t D σ H ∨ tLock t D σ H, fun z => ⟨fun pins s' σ H D I q => q.elim ((tp z).run pins s' σ H D I) ((ps_lock (tp z)).run pins s' σ H D I)⟩, fun σ H env Fs D R hw => ?_⟩
  by_cases hd : isDct i env
  · obtain ⟨d, kvs, ed, he⟩ := hd
    obtain ⟨a, u, F, e1, e2, iu, lk⟩ := dict_at R ed he
    rcases lk with lk | ⟨o, lk⟩
    · refine .inr ⟨a, u, lk, mut_isD iu, fun od => ?_⟩
      have noroot : ∀ j ∈ U, ∀ b, σ[j]? = some (some (.ref b)) → b ≠ a := fun j hj b eb z => by
        have := R.clean_slot hi j hj b eb
        rw [e2, z] at this
        exact this List.mem_cons_self
      have kf : KF H (upd H a (.frz od u)) := fun b o eb => by
        by_cases z : b = a
        · subst z
          rw [lk] at eb
          cases eb
          exact .inr ⟨iu, od, upd_same⟩
        · exact .inl (by rw [upd_ne z]; exact eb)
      have dm : ∀ b, upd H a (.frz od u) b = none → H b = none := upd_dom
      have Rl := R.lock kf dm fun j hj b eb => upd_ne (noroot j hj b eb)
      refine ts σ _ env Fs _ Rl ⟨a, od, u, e1, upd_same, iu⟩ (wp_mono hw fun fl e2' k => ?_)
      have nWr : ∀ {σ : L2.St}, (∀ j ∈ U, ∀ b, σ[j]? = some (some (.ref b)) → b ≠ a) → ¬ Wr U Rv σ a := fun h ⟨j, h1, _, h3⟩ => h j h1 a h3 rfl
      have h0 : C.M = [] → ∀ o, C.H0 a = some o → o = u := fun hm o eo => by
        rcases R.kp hm a o eo with q | ⟨_, od', q⟩
        · rw [lk] at q
          cases q
          rfl
        · rw [lk] at q
          cases q
          cases iu
      have back : ∀ {Ux : List Nat} {σ' : L2.St} {H' : Hp} {Fs' : Nat → List Addr}, SPost C U Rv σ (upd H a (.frz od u)) Fs Ux σ' H' e2' Fs' → H' a = some (.frz od u) ∧ Unl a od u H' (upd H' a u) ∧ SPost C U Rv σ H Fs Ux σ' (upd H' a u) e2' Fs' := fun {Ux σ' H' Fs'} S => by
        have e3 := S.keep a _ upd_same (nWr noroot)
        have ul : Unl a od u H' (upd H' a u) := ⟨e3, upd_same, fun b hb => upd_ne hb, iu⟩
        refine ⟨e3, ul, S.env.unl ul h0, fun b o eb nb => ?_, fun b eb => dm b (S.dom b (ul.dom eb)), fun j b m => (S.grow j b m).imp id (dm b), fun j hj hr b eb => (S.root j hj hr b eb).imp id (dm b), S.fix, S.res⟩
        by_cases z : b = a
        · subst z
          rw [lk] at eb
          cases eb
          exact upd_same
        · rw [upd_ne z]
          exact S.keep b o (by rw [upd_ne z]; exact eb) nb
      cases fl with
      | nx =>
        intro σ' H' Fs' S
        obtain ⟨e3, _, S'⟩ := back S
        exact ⟨e3, (show ∀ σ' H' Fs', SPost C U Rv σ H Fs Un σ' H' e2' Fs' → D.nx σ' H' from k) σ' _ Fs' S'⟩
      | bk =>
        intro σ' H' Fs' S
        obtain ⟨e3, _, S'⟩ := back S
        exact ⟨e3, (show ∀ σ' H' Fs', SPost C U Rv σ H Fs x.b σ' H' e2' Fs' → D.bk σ' H' from k) σ' _ Fs' S'⟩
      | ct =>
        intro σ' H' Fs' S
        obtain ⟨e3, _, S'⟩ := back S
        exact ⟨e3, (show ∀ σ' H' Fs', SPost C U Rv σ H Fs x.c σ' H' e2' Fs' → D.ct σ' H' from k) σ' _ Fs' S'⟩
      | rt d =>
        intro v σ' H' Fs' F' P
        obtain ⟨e3, ul, S'⟩ := back P.s
        refine ⟨e3, (show ∀ v σ' H' Fs' F, RPost C U Rv σ H Fs x.r x.k d e2' v σ' H' Fs' F → D.rt v H' from k) v σ' _ Fs' F' ⟨S', P.rep.unl ul, fun b m => (P.fgrow b m).imp id (dm b), ?_⟩⟩
        have kd := P.knd
        generalize x.k = xk at kd
        cases xk with
        | cl => exact kd
        | fr =>
          obtain ⟨b, G, q1, q2, q3, q4, q5, q6, q7, q8⟩ := kd
          exact ⟨b, G, q1, q2, q3, q4, q5, ul.mut q6, q7, q8⟩
        | br j => exact kd
    · exact .inl (ts σ H env Fs D R ⟨a, o, u, e1, lk, iu⟩ hw)
  · rw [hf env hd] at hw
    exact (show False from hw).elim
theorem for_bad {ent : PyData → Option (List (PyData × PyData))} {pr : PyData × PyData → PyData} {tg : PyData → Env → Option Env} {fb : Env → Rs Fl} (hent : ∀ d kvs, ent d = some kvs → entsD d = some kvs) : ∀ env, ¬ isDct i env → forS (walkD ent pr i) tg fb env = .bad := fun env h => by
  unfold forS walkD
  split
  · rename_i d e
    split
    · rename_i kvs he
      exact absurd ⟨d, kvs, e, hent d _ he⟩ h
    · rfl
  · rfl
theorem de_lock {U' : List Nat} {e : Expr} {fe : Env → Rs PyData} {kd : Kd} (hs : DEp C (Lkd i) U Rv e fe U' kd) (hi : i ∉ U) (hf : ∀ env, ¬ isDct i env → fe env = .bad) : DE C U Rv e fe U' kd := by
  obtain ⟨hU, t, tp, ts⟩ := hs
  refine ⟨hU, fun σ H Q => t σ H Q ∨ tLockE t σ H Q, fun z => ⟨fun pins s' σ H D I q => q.elim ((tp z).run pins s' σ H D I) ((pe_lock (tp z)).run pins s' σ H D I)⟩, fun σ H env Fs Q R hw => ?_⟩
  by_cases hd : isDct i env
  · obtain ⟨d, kvs, ed, he⟩ := hd
    obtain ⟨a, u, F, e1, e2, iu, lk⟩ := dict_at R ed he
    rcases lk with lk | ⟨o, lk⟩
    · refine .inr ⟨a, u, lk, mut_isD iu, fun od => ?_⟩
      have noroot : ∀ j ∈ U, ∀ b, σ[j]? = some (some (.ref b)) → b ≠ a := fun j hj b eb z => by
        have := R.clean_slot hi j hj b eb
        rw [e2, z] at this
        exact this List.mem_cons_self
      have kf : KF H (upd H a (.frz od u)) := fun b o eb => by
        by_cases z : b = a
        · subst z
          rw [lk] at eb
          cases eb
          exact .inr ⟨iu, od, upd_same⟩
        · exact .inl (by rw [upd_ne z]; exact eb)
      have dm : ∀ b, upd H a (.frz od u) b = none → H b = none := upd_dom
      have Rl := R.lock kf dm fun j hj b eb => upd_ne (noroot j hj b eb)
      refine ts σ _ env Fs _ Rl ⟨a, od, u, e1, upd_same, iu⟩ (wp_mono hw fun y e2' k v H' Fs' F' P => ?_)
      have h0 : C.M = [] → ∀ o, C.H0 a = some o → o = u := fun hm o eo => by
        rcases R.kp hm a o eo with q | ⟨_, od', q⟩
        · rw [lk] at q
          cases q
          rfl
        · rw [lk] at q
          cases q
          cases iu
      have e3 := P.keep a _ upd_same fun ⟨j, h1, _, h3⟩ => noroot j h1 a h3 rfl
      have ul : Unl a od u H' (upd H' a u) := ⟨e3, upd_same, fun b hb => upd_ne hb, iu⟩
      refine ⟨e3, k v _ Fs' F' ⟨P.env.unl ul h0, fun b o eb nb => ?_, fun b eb => dm b (P.dom b (ul.dom eb)), fun j b m => (P.grow j b m).imp id (dm b), P.rep.unl ul, fun b m => (P.fgrow b m).imp id (dm b), ?_, fun ek b eb => (P.frw ek b eb).imp (dm b) id⟩⟩
      · by_cases z : b = a
        · subst z
          rw [lk] at eb
          cases eb
          exact upd_same
        · rw [upd_ne z]
          exact P.keep b o (by rw [upd_ne z]; exact eb) nb
      · have kk := P.knd
        cases kd with
        | cl => exact kk
        | fr =>
          obtain ⟨b, G, q1, q2, q3, q4, q5, q6, q7, q8⟩ := kk
          exact ⟨b, G, q1, q2, q3, q4, q5, ul.mut q6, q7, q8⟩
        | br j => exact kk
    · exact .inl (ts σ H env Fs Q R ⟨a, o, u, e1, lk, iu⟩ hw)
  · rw [hf env hd] at hw
    exact (show False from hw).elim
theorem comp_bad {own : List Nat} {ent : PyData → Option (List (PyData × PyData))} {pr : PyData × PyData → PyData} {tg : PyData → Env → Option Env} {fc : Env → Rs Bool} {fe : Env → Rs PyData} (hent : ∀ d kvs, ent d = some kvs → entsD d = some kvs) : ∀ env, ¬ isDct i env → compE own (walkD ent pr i) tg fc fe env = .bad := fun env h => by
  unfold compE walkD
  split
  · rename_i d e
    split
    · rename_i kvs he
      exact absurd ⟨d, kvs, e, hent d _ he⟩ h
    · rfl
  · rfl
end
end DV

set_option Elab.async false
set_option linter.all false
set_option maxRecDepth 100000
set_option maxHeartbeats 2000000
namespace DV
open PySem L2 PySem.Spec
open PyProof.Rows hiding St

/-! ### built-ins as data -/
def one (g : PyData → Option PyData) : List PyData → Option PyData
  | [d] => g d
  | _ => none
theorem okn_one {K : PySem.W.Frag} {r : List V → Hp → VK → Prop} {g : PyData → Option PyData} {fr : Bool} (h : ∀ (H : Hp) (v : V) (d : PyData) (F : List Addr) (d' : PyData) (Q : VK), Rep K H v d F → g d = some d' → (∀ v' H' F', ResR K H H' v' d' F' (fun a => a ∈ inner d F) fr → Q v' H') → r [v] H Q) : OKN K r (one g) fr :=
  (OKN.of1 (r := r) (r1 := fun v H Q => r [v] H Q) h fun _ _ _ q => q)
section
variable {K : PySem.W.Frag}
def lenA : PyData → Option PyData
  | .list xs => some (.int xs.length)
  | .tuple xs => some (.int xs.length)
  | .str z => if z.length ≤ lim then some (.int z.length) else none
  | .dict ((.none, .none) :: kvs) => some (.int kvs.length)
  | .dict ((.none, _) :: _) => none
  | .dict kvs => some (.int kvs.length)
  | _ => none
theorem ok_len : OKN K (rLenA K) (one lenA) false := okn_one fun H v d F d' Q r hd k => by
  cases r with
  | lst h l =>
    cases hd
    refine .inl ⟨_, _, rfl, .inl (SqL.of h), ?_⟩
    rw [l.length]
    exact k _ _ _ (res_sc (.int _))
  | @frz a o ns h =>
    cases hd
    refine .inl ⟨_, _, rfl, .inl (.inl (.inr ⟨_, h⟩)), ?_⟩
    rw [List.length_map]
    have := k (.int ns.length) H [] (by rw [List.length_map]; exact res_sc (.int _))
    exact this
  | @lsc a ns h =>
    cases hd
    refine .inl ⟨_, _, rfl, .inl (.inr h), ?_⟩
    rw [List.length_map]
    have := k (.int ns.length) H [] (by rw [List.length_map]; exact res_sc (.int _))
    exact this
  | tup h l =>
    cases hd
    refine .inl ⟨_, _, rfl, .inr (SqT.of h), ?_⟩
    rw [l.length]
    exact k _ _ _ (res_sc (.int _))
  | str z =>
    simp only [lenA] at hd
    split at hd
    · rename_i hz
      cases hd
      exact .inr (.inl ⟨z, rfl, lim_ok hz, k _ _ _ (res_sc (.int _))⟩)
    · cases hd
  | @dctK a kvs ds F rd l =>
    unfold lenA at hd
    split at hd
    · rename_i z; cases z
    · rename_i z; cases z
    · rename_i z; cases z
    · rename_i z
      simp only [PyData.dict.injEq] at z
      exact (zip_key keyD_ne z).elim
    · cases hd
    · rename_i z
      simp only [PyData.dict.injEq] at z
      subst z
      cases hd
      refine .inr (.inr (.inl ⟨a, kvs, rfl, rd, ?_⟩))
      rw [← putK_len l keyD]
      exact k _ _ _ (res_sc (.int _))
    · cases hd
  | @dctT a kvs ds F rd l =>
    cases hd
    refine .inr (.inr (.inr ⟨a, kvs, rfl, rd, ?_⟩))
    rw [← putK_len l DV.keyT]
    exact k _ _ _ (res_sc (.int _))
  | _ => cases hd
def absD : PyData → Option PyData
  | .int i => some (.int (if i < 0 then -i else i))
  | _ => none
theorem ok_abs : OKN K (fun xs H Q => ∃ i, xs = [.int i] ∧ Q (.int (if i < 0 then -i else i)) H) (one absD) false := okn_one fun H v d F d' Q r hd k => by
  cases r with
  | int i =>
    cases hd
    exact ⟨i, rfl, k _ _ _ (res_sc (.int _))⟩
  | _ => cases hd
def intF : PyData → Option PyData
  | .int i => some (.int i)
  | .bool b => some (.int (if b = true then 1 else 0))
  | _ => none
theorem ok_int : OKN K (fun xs H Q => (∃ i, xs = [.int i] ∧ Q (.int i) H) ∨ ∃ k, xs = [.bl k] ∧ Q (.int (if k then 1 else 0)) H) (one intF) false := okn_one fun H v d F d' Q r hd k => by
  cases r with
  | int i =>
    cases hd
    exact .inl ⟨i, rfl, k _ _ _ (res_sc (.int _))⟩
  | bl b =>
    cases hd
    exact .inr ⟨b, rfl, k _ _ _ (res_sc (.int _))⟩
  | _ => cases hd
/-! lists of one kind -/
def intsOf : List PyData → Option (List Int)
  | [] => some []
  | .int i :: r => (intsOf r).map (i :: ·)
  | _ :: _ => none
def bolsOf : List PyData → Option (List Bool)
  | [] => some []
  | .bool i :: r => (bolsOf r).map (i :: ·)
  | _ :: _ => none
theorem intsOf_eq : ∀ {ds : List PyData} {ns : List Int}, intsOf ds = some ns → ds = ns.map PyData.int
  | [], _, h => by
    cases h
    rfl
  | .int i :: r, ns, h => by
    simp only [intsOf] at h
    cases e : intsOf r with
    | none =>
      rw [e] at h
      cases h
    | some l =>
      rw [e] at h
      cases h
      rw [intsOf_eq e]
      rfl
  | .none :: _, _, h => by cases h
  | .bool _ :: _, _, h => by cases h
  | .str _ :: _, _, h => by cases h
  | .list _ :: _, _, h => by cases h
  | .tuple _ :: _, _, h => by cases h
  | .dict _ :: _, _, h => by cases h
theorem bolsOf_eq : ∀ {ds : List PyData} {ns : List Bool}, bolsOf ds = some ns → ds = ns.map PyData.bool
  | [], _, h => by
    cases h
    rfl
  | .bool i :: r, ns, h => by
    simp only [bolsOf] at h
    cases e : bolsOf r with
    | none =>
      rw [e] at h
      cases h
    | some l =>
      rw [e] at h
      cases h
      rw [bolsOf_eq e]
      rfl
  | .none :: _, _, h => by cases h
  | .int _ :: _, _, h => by cases h
  | .str _ :: _, _, h => by cases h
  | .list _ :: _, _, h => by cases h
  | .tuple _ :: _, _, h => by cases h
  | .dict _ :: _, _, h => by cases h
theorem repL_int {H : Hp} : ∀ {vs : List V} {ns : List Int} {F : List Addr}, RepL K H vs (ns.map PyData.int) F → vs = ns.map V.int
  | _, [], _, .nil => rfl
  | _, n :: ns, _, .cons r l => by
    cases r
    rw [repL_int l]
    rfl
theorem repL_bl {H : Hp} : ∀ {vs : List V} {ns : List Bool} {F : List Addr}, RepL K H vs (ns.map PyData.bool) F → vs = ns.map V.bl
  | _, [], _, .nil => rfl
  | _, n :: ns, _, .cons r l => by
    cases r
    rw [repL_bl l]
    rfl
def sumD : PyData → Option PyData
  | .list xs => (intsOf xs).map fun ns => .int ns.sum
  | _ => none
theorem ok_sum : OKN K (rSum K) (one sumD) false := okn_one fun H v d F d' Q r hd k => by
  cases d with
  | list xs =>
    simp only [sumD] at hd
    cases e : intsOf xs with
    | none =>
      rw [e] at hd
      cases hd
    | some ns =>
      rw [e] at hd
      cases hd
      obtain ⟨a, vs, G, rfl, h1, l, _⟩ := r.sqL
      rw [intsOf_eq e] at l
      rw [repL_int l] at h1
      exact ⟨a, ns, rfl, h1, k _ _ _ (res_sc (.int _))⟩
  | _ => cases hd
def anyD : PyData → Option PyData
  | .list xs => (bolsOf xs).map fun bs => .bool (bs.any id)
  | _ => none
def allD : PyData → Option PyData
  | .list xs => (bolsOf xs).map fun bs => .bool (bs.all id)
  | _ => none
theorem ok_any : OKN K (rAny K) (one anyD) false := okn_one fun H v d F d' Q r hd k => by
  cases d with
  | list xs =>
    simp only [anyD] at hd
    cases e : bolsOf xs with
    | none =>
      rw [e] at hd
      cases hd
    | some ns =>
      rw [e] at hd
      cases hd
      obtain ⟨a, vs, G, rfl, h1, l, _⟩ := r.sqL
      rw [bolsOf_eq e] at l
      rw [repL_bl l] at h1
      exact ⟨a, ns, rfl, h1, k _ _ _ (res_sc (.bl _))⟩
  | _ => cases hd
theorem ok_all : OKN K (rAll K) (one allD) false := okn_one fun H v d F d' Q r hd k => by
  cases d with
  | list xs =>
    simp only [allD] at hd
    cases e : bolsOf xs with
    | none =>
      rw [e] at hd
      cases hd
    | some ns =>
      rw [e] at hd
      cases hd
      obtain ⟨a, vs, G, rfl, h1, l, _⟩ := r.sqL
      rw [bolsOf_eq e] at l
      rw [repL_bl l] at h1
      exact ⟨a, ns, rfl, h1, k _ _ _ (res_sc (.bl _))⟩
  | _ => cases hd
def tupF : PyData → Option PyData
  | .list xs => some (.tuple xs)
  | .tuple xs => some (.tuple xs)
  | _ => none
theorem ok_tuple : OKN K (fun xs H Q => ∃ p ys, xs = [.ref p] ∧ ((SqL K H p ys ∧ ∀ l, H l = none → Q (.ref l) (upd H l (.tup ys))) ∨ (SqT K H p ys ∧ Q (.ref p) H))) (one tupF) false := okn_one fun H v d F d' Q r hd k => by
  cases d with
  | list xs =>
    cases hd
    obtain ⟨a, vs, G, rfl, h1, l, s⟩ := r.sqL
    exact ⟨a, vs, rfl, .inl ⟨h1, fun p np => k _ _ _ (res_tup np l fun b m => .inl (s b m))⟩⟩
  | tuple xs =>
    cases hd
    obtain ⟨a, vs, rfl, h1, l⟩ := r.sqT
    exact ⟨a, vs, rfl, .inr ⟨h1, k _ _ _ (res_here r fun b m => by rw [inner_tup]; exact m)⟩⟩
  | _ => cases hd
def lstF : PyData → Option PyData
  | .list xs => some (.list xs)
  | .tuple xs => some (.list xs)
  | _ => none
theorem ok_list : OKN K (fun xs H Q => ∃ p ys, xs = [.ref p] ∧ (SqL K H p ys ∨ SqT K H p ys) ∧ ∀ l, H l = none → Q (.ref l) (upd H l (.lst ys))) (one lstF) true := okn_one fun H v d F d' Q r hd k => by
  cases d with
  | list xs =>
    cases hd
    obtain ⟨a, vs, G, rfl, h1, l, s⟩ := r.sqL
    exact ⟨a, vs, rfl, .inl h1, fun p np => k _ _ _ (res_lst np l fun b m => .inl (s b m))⟩
  | tuple xs =>
    cases hd
    obtain ⟨a, vs, rfl, h1, l⟩ := r.sqT
    exact ⟨a, vs, rfl, .inr h1, fun p np => k _ _ _ (res_lst np l fun b m => .inl (by rw [inner_tup]; exact m))⟩
  | _ => cases hd
def reprF (d : PyData) : Option PyData := if d.canLay0 = true ∧ d.showable = true ∧ d.shown.length ≤ lim ∧ d.depth ≤ 60 then some (.str d.shown) else none
theorem ok_repr : OKN K (rReprD K) (one reprF) false := okn_one fun H v d F d' Q r hd k => by
  unfold reprF at hd
  split at hd
  · rename_i h
    cases hd
    exact ⟨v, d, rfl, r.dp h.1, h.1, h.2.1, lim_ok h.2.2.1, h.2.2.2, k _ _ _ (res_sc (.str _))⟩
  · cases hd
def strF : PyData → Option PyData
  | .int i => if i.natAbs.log2 < 1920 then some (.str (toString i)) else none
  | _ => none
theorem ok_str : OKN K (fun xs H Q => ∃ i, xs = [.int i] ∧ i.natAbs.log2 < 1920 ∧ Q (.str (toString i)) H) (one strF) false := okn_one fun H v d F d' Q r hd k => by
  cases r with
  | int i =>
    simp only [strF] at hd
    split at hd
    · rename_i h
      cases hd
      exact ⟨i, rfl, h, k _ _ _ (res_sc (.str _))⟩
    · cases hd
  | _ => cases hd
end
end DV

set_option Elab.async false
set_option linter.all false
set_option maxRecDepth 100000
set_option maxHeartbeats 2000000
namespace DV
open PySem L2 PySem.Spec
open PyProof.Rows hiding St
open PySem.W (alike AlikeAll minD maxD readsAll_atA reads_keeps min_list_data min_tuple_data max_list_data max_tuple_data)

/-! ### min of alike data -/
def alikeB (xs : List PyData) : Bool := (xs.all fun x => xs.all fun y => alike x y) && xs.all fun x => !isNone x
theorem alikeB_all {xs : List PyData} (h : alikeB xs = true) : AlikeAll xs := by
  unfold alikeB at h
  rw [Bool.and_eq_true, List.all_eq_true, List.all_eq_true] at h
  refine ⟨fun x hx y hy => List.all_eq_true.mp (h.1 x hx) y hy, fun x hx e => ?_⟩
  have := h.2 x hx
  rw [e] at this
  cases this
def minF : PyData → Option PyData
  | .list (x :: xs) => if (alikeB (x :: xs) && PyData.canLayAll0 (x :: xs)) = true ∧ PyData.depthAll (x :: xs) ≤ 60 then some (minD x xs) else none
  | .tuple (x :: xs) => if (alikeB (x :: xs) && PyData.canLayAll0 (x :: xs)) = true ∧ PyData.depthAll (x :: xs) ≤ 60 then some (minD x xs) else none
  | _ => none
def maxF : PyData → Option PyData
  | .list (x :: xs) => if (alikeB (x :: xs) && PyData.canLayAll0 (x :: xs)) = true ∧ PyData.depthAll (x :: xs) ≤ 60 then some (maxD x xs) else none
  | .tuple (x :: xs) => if (alikeB (x :: xs) && PyData.canLayAll0 (x :: xs)) = true ∧ PyData.depthAll (x :: xs) ≤ 60 then some (maxD x xs) else none
  | _ => none
/-- an item of the walked thing that reads as m -/
def rBest (K : PySem.W.Frag) (mn : PyData → List PyData → PyData) : List V → Hp → VK → Prop := fun ws H Q => ∃ (a : Addr) (vs : List V) (x : PyData) (xs : List PyData), ws = [.ref a] ∧ (SqL K H a vs ∨ SqT K H a vs) ∧ DpAll K H vs (x :: xs) ∧ alikeB (x :: xs) = true ∧ PyData.canLayAll0 (x :: xs) = true ∧ PyData.depthAll (x :: xs) ≤ 60 ∧
  ∀ (i : Nat) (v : V), vs[i]? = some v → (x :: xs)[i]? = some (mn x xs) → Q v H
section
variable {X : Cx}
theorem best_item {s : Shared} {vs : List V} {its : List Value} {ds : List PyData} {as : List Addr} {i : Nat} {u : Value} {h' : Heap} {bs : List Addr} {m : PyData} (r : Vals vs its) (hr : ReadsAll s.heap its ds as) (hc : PyData.canLayAll0 ds = true)
    (e : its.toArray[i]? = some u) (rd : Reads h' u m bs) (hk : ∀ b o, s.heap.get? b = some o → h'.get? b = some o) : ∃ v, vs[i]? = some v ∧ RelV v u ∧ ds[i]? = some m := by
  have e' : its[i]? = some u := by simpa using e
  have hi : i < its.length := (List.getElem?_eq_some_iff.mp e').1
  have hl := r.length
  have hv := List.getElem?_eq_getElem (l := vs) (i := i) (by omega)
  obtain ⟨w, ew, rw'⟩ := r.get hv
  rw [e'] at ew
  cases ew
  refine ⟨_, hv, rw', ?_⟩
  have hln : its.length = ds.length := SeqAt.ReadsAll.length ds its as hr
  have hd := List.getElem?_eq_getElem (l := ds) (i := i) (by omega)
  rw [hd]
  have hmap := SeqAt.readsAll_map ds its as hc hr
  have hci : ∀ (ds : List PyData), PyData.canLayAll0 ds = true → ∀ d ∈ ds, d.canLay0 = true := fun ds => by
    induction ds with
    | nil => exact fun _ d m => nomatch m
    | cons x xs ih =>
      intro h d m
      simp only [PyData.canLayAll0, Bool.and_eq_true] at h
      rcases List.mem_cons.mp m with z | z
      · rw [z]
        exact h.1
      · exact ih h.2 d z
  have hcd := hci ds hc _ (List.getElem_mem (by omega : i < ds.length))
  have e1 : SeqAt.readOf s.heap u = ds[i]'(by omega) := by
    have : (its.map (SeqAt.readOf s.heap))[i]? = ds[i]? := by rw [hmap]
    rw [List.getElem?_map, e', hd] at this
    exact Option.some.inj this
  have rds : ∃ cs, Reads s.heap u (ds[i]'(by omega)) cs := by
    obtain ⟨cs, q, _, _, _⟩ := readsAll_atA (vs := its.toArray) (h := s.heap) (by simpa using hr) i u e
    refine ⟨cs, ?_⟩
    have : ds.getD i .none = ds[i]'(by omega) := by rw [List.getD_eq_getElem?_getD, hd]; rfl
    rw [← this]
    exact q
  obtain ⟨cs, rds⟩ := rds
  exact congrArg some (PySem.Reads.unique (reads_keeps hk rds) _ _ rd).1
theorem call_minA (hc : X.calm = true) (hu : X.A.units + 65 < cLine) : CallR X (.builtin "min") (rBest X.K minD) := by
  intro pins s σ H ws us Q I rv h
  obtain ⟨a, vs, x, xs, rfl, hs, hd, ha, hcl, h60, q⟩ := h
  rw [Vals.ref1 rv]
  have hh := I.ok.hd hc
  rcases hs with hs | hs
  · obtain ⟨its, r, pl, hz⟩ := I.list hs
    obtain ⟨as, hr⟩ := Dp.readsAll I (x :: xs) vs its hd r
    refine min_list_data hh pl.isList (by simpa using hr) (alikeB_all ha) (by omega) fun i u h' tk bs e rd hk => ?_
    obtain ⟨v, e1, e2, e3⟩ := best_item r hr hcl e rd hk
    exact ⟨v, H, I.kept hk, e2, q i v e1 e3⟩
  · obtain ⟨its, r, pl, hz⟩ := I.tuple hs
    obtain ⟨as, hr⟩ := Dp.readsAll I (x :: xs) vs its hd r
    refine min_tuple_data hh (show s.heap.IsTuple a its.toArray from pl) (by simpa using hr) (alikeB_all ha) (by omega) fun i u h' tk bs e rd hk => ?_
    obtain ⟨v, e1, e2, e3⟩ := best_item r hr hcl e rd hk
    exact ⟨v, H, I.kept hk, e2, q i v e1 e3⟩
theorem call_maxA (hc : X.calm = true) (hu : X.A.units + 65 < cLine) : CallR X (.builtin "max") (rBest X.K maxD) := by
  intro pins s σ H ws us Q I rv h
  obtain ⟨a, vs, x, xs, rfl, hs, hd, ha, hcl, h60, q⟩ := h
  rw [Vals.ref1 rv]
  have hh := I.ok.hd hc
  rcases hs with hs | hs
  · obtain ⟨its, r, pl, hz⟩ := I.list hs
    obtain ⟨as, hr⟩ := Dp.readsAll I (x :: xs) vs its hd r
    refine max_list_data hh pl.isList (by simpa using hr) (alikeB_all ha) (by omega) fun i u h' tk bs e rd hk => ?_
    obtain ⟨v, e1, e2, e3⟩ := best_item r hr hcl e rd hk
    exact ⟨v, H, I.kept hk, e2, q i v e1 e3⟩
  · obtain ⟨its, r, pl, hz⟩ := I.tuple hs
    obtain ⟨as, hr⟩ := Dp.readsAll I (x :: xs) vs its hd r
    refine max_tuple_data hh (show s.heap.IsTuple a its.toArray from pl) (by simpa using hr) (alikeB_all ha) (by omega) fun i u h' tk bs e rd hk => ?_
    obtain ⟨v, e1, e2, e3⟩ := best_item r hr hcl e rd hk
    exact ⟨v, H, I.kept hk, e2, q i v e1 e3⟩
end
theorem ok_best {K : PySem.W.Frag} {mn : PyData → List PyData → PyData} {g : PyData → Option PyData} (hg : ∀ d d', g d = some d' → ∃ x xs, (d = .list (x :: xs) ∨ d = .tuple (x :: xs)) ∧ alikeB (x :: xs) = true ∧ PyData.canLayAll0 (x :: xs) = true ∧ PyData.depthAll (x :: xs) ≤ 60 ∧ d' = mn x xs) : OKN K (rBest K mn) (one g) false := okn_one fun H v d F d' Q r hd k => by
  obtain ⟨x, xs, h, h1, h2, h3, rfl⟩ := hg d d' hd
  rcases h with rfl | rfl
  · obtain ⟨a, vs, G, rfl, hs, l, sub⟩ := r.sqL
    refine ⟨a, vs, x, xs, rfl, .inl hs, l.dp h2, h1, h2, h3, fun i v e1 e2 => ?_⟩
    obtain ⟨G', q, s⟩ := l.at e1 e2
    exact k v H G' (res_here q fun b m => sub b (s b m))
  · obtain ⟨a, vs, rfl, hs, l⟩ := r.sqT
    refine ⟨a, vs, x, xs, rfl, .inr hs, l.dp h2, h1, h2, h3, fun i v e1 e2 => ?_⟩
    obtain ⟨G', q, s⟩ := l.at e1 e2
    exact k v H G' (res_here q fun b m => by rw [inner_tup]; exact s b m)
theorem ok_min {K : PySem.W.Frag} : OKN K (rBest K minD) (one minF) false := ok_best fun d d' h => by
  unfold minF at h
  split at h
  · split at h
    · rename_i c
      cases h
      rw [Bool.and_eq_true] at c
      exact ⟨_, _, .inl rfl, c.1.1, c.1.2, c.2, rfl⟩
    · cases h
  · split at h
    · rename_i c
      cases h
      rw [Bool.and_eq_true] at c
      exact ⟨_, _, .inr rfl, c.1.1, c.1.2, c.2, rfl⟩
    · cases h
  · cases h
theorem ok_max {K : PySem.W.Frag} : OKN K (rBest K maxD) (one maxF) false := ok_best fun d d' h => by
  unfold maxF at h
  split at h
  · split at h
    · rename_i c
      cases h
      rw [Bool.and_eq_true] at c
      exact ⟨_, _, .inl rfl, c.1.1, c.1.2, c.2, rfl⟩
    · cases h
  · split at h
    · rename_i c
      cases h
      rw [Bool.and_eq_true] at c
      exact ⟨_, _, .inr rfl, c.1.1, c.1.2, c.2, rfl⟩
    · cases h
  · cases h
/-! ### <, numbers and tuples of numbers -/
def rLtA (K : PySem.W.Frag) : R2 := fun x y H Q => rI0 (fun i j => .bl (decide (i < j))) x y H Q ∨ rLtT K x y H Q
def ltA (d e : PyData) : Option PyData := match d, e with
  | .int i, .int j => some (.bool (decide (i < j)))
  | .tuple xs, .tuple ys => match intsOf xs, intsOf ys with
    | some ns, some ms => some (.bool (HT.lexLt ns ms))
    | _, _ => none
  | _, _ => none
theorem op_ltA {X : Cx} (hu : X.A.units < cLine) : OpR X (compareOp .Lt) (rLtA X.K) := DV.OpR.or op_lt (op_ltT hu)
theorem ok_lt {K : PySem.W.Frag} : OK2 K (rLtA K) ltA false := by
  intro H v w d e F G d' Q r1 r2 hd k
  unfold ltA at hd
  split at hd
  · rename_i i j
    cases hd
    cases r1
    cases r2
    exact .inl ⟨i, j, rfl, rfl, k _ _ _ (res_sc (.bl _))⟩
  · rename_i xs ys
    split at hd
    · rename_i ns ms e1 e2
      cases hd
      obtain ⟨a, vs, rfl, h1, l1⟩ := r1.sqT
      obtain ⟨b, ws, rfl, h2, l2⟩ := r2.sqT
      rw [intsOf_eq e1] at l1
      rw [intsOf_eq e2] at l2
      rw [repL_int l1] at h1
      rw [repL_int l2] at h2
      exact .inr ⟨a, b, ns, ms, rfl, rfl, h1, h2, k _ _ _ (res_sc (.bl _))⟩
    · cases hd
  · cases hd

/-! ### sorted -/
open PySem.W (dataLe sorted_data AllAlike Sortable EachIs)
def sortable (ds : List PyData) : Bool := (ds.all fun d => match d with | .tuple (_ :: _) => true | _ => false) || ds.all fun d => match d with | .tuple _ => false | .none => false | _ => true
def sortL (ds : List PyData) : List PyData := ds.mergeSort (dataLe false id)
def sortF : PyData → Option PyData
  | .list xs => if (alikeB xs && PyData.canLayAll0 xs && sortable xs) = true ∧ PyData.depthAll xs ≤ 60 then some (.list (sortL xs)) else none
  | _ => none
theorem sortable_of {ds : List PyData} (h : sortable ds = true) : Sortable ds := by
  unfold sortable at h
  rw [Bool.or_eq_true, List.all_eq_true, List.all_eq_true] at h
  rcases h with h | h
  · refine .inl fun d hd => ?_
    have := h d hd
    split at this
    · exact ⟨_, _, rfl⟩
    · cases this
  · refine .inr fun d hd => ⟨fun e => ?_, fun xs e => ?_⟩
    · have := h d hd
      rw [e] at this
      cases this
    · have := h d hd
      rw [e] at this
      cases this
theorem alike_of {ds : List PyData} (h : alikeB ds = true) : AllAlike ds := fun d hd d' hd' => (alikeB_all h).1 d hd d' hd'
/-- pairs of one list of items, in any turn -/
theorem RepL.pick {K : PySem.W.Frag} {H : Hp} {vs : List V} {ds : List PyData} {F : List Addr} (h : RepL K H vs ds F) : ∀ {l : List (V × PyData)}, (∀ p ∈ l, p ∈ vs.zip ds) → ∃ G, RepL K H (l.map (·.1)) (l.map (·.2)) G ∧ ∀ a ∈ G, a ∈ F
  | [], _ => ⟨[], .nil, fun _ m => nomatch m⟩
  | p :: l, hp => by
    obtain ⟨G, r, s⟩ := RepL.pick h (l := l) fun q m => hp q (List.mem_cons_of_mem _ m)
    obtain ⟨i, hi⟩ := List.mem_iff_getElem?.mp (hp p List.mem_cons_self)
    rw [List.getElem?_zip_eq_some] at hi
    obtain ⟨G', r', s'⟩ := h.at hi.1 hi.2
    exact ⟨G' ++ G, .cons r' r, fun a m => (List.mem_append.mp m).elim (s' a) (s a)⟩
def rSortD (K : PySem.W.Frag) : List V → Hp → VK → Prop := fun ws H Q => ∃ (a : Addr) (vs : List V) (ds : List PyData), ws = [.ref a] ∧ SqL K H a vs ∧ DpAll K H vs ds ∧ (alikeB ds && PyData.canLayAll0 ds && sortable ds) = true ∧ PyData.depthAll ds ≤ 60 ∧
  ∀ (l : List (V × PyData)) (p : Addr), l.Perm (vs.zip ds) → l.map (·.2) = sortL ds → H p = none → Q (.ref p) (upd H p (.lst (l.map (·.1))))
theorem depth_le : ∀ {ds : List PyData} {d : PyData}, d ∈ ds → d.depth ≤ PyData.depthAll ds
  | x :: xs, d, m => by
    simp only [PyData.depthAll]
    rcases List.mem_cons.mp m with z | z
    · rw [z]
      omega
    · have := depth_le z
      omega
theorem zip_snd : ∀ {α β : Type} {l : List α} {m : List β}, l.length = m.length → (l.zip m).map (·.2) = m
  | _, _, [], [], _ => rfl
  | _, _, a :: l, b :: m, h => by
    rw [List.zip_cons_cons, List.map_cons, zip_snd (by simpa using h)]
theorem each_rel : ∀ {vs : List V} {its : List Value} {ds : List PyData}, Vals vs its → ds.length = vs.length → EachIs (fun u (b : V × PyData) => RelV b.1 u) its (vs.zip ds)
  | [], _, _, .nil, _ => .nil
  | _ :: _, _, [], .cons _ _, h => by simp at h
  | _ :: _, _, _ :: _, .cons r t, h => .cons r (each_rel t (by simpa using h))
theorem each_reads {h : Heap} : ∀ {vs : List V} {its : List Value} {ds : List PyData} {as : List Addr}, ReadsAll h its ds as → ds.length = vs.length → EachIs (fun u (b : V × PyData) => ∃ as, Reads h u b.2 as) its (vs.zip ds)
  | [], _, [], _, .nil, _ => .nil
  | [], _, _ :: _, _, _, h => by simp at h
  | _ :: _, _, [], _, _, h => by simp at h
  | _ :: _, _, _ :: _, _, .cons r t, h => .cons ⟨_, r⟩ (each_reads t (by simpa using h))
theorem vals_each : ∀ {out : List Value} {l : List (V × PyData)}, EachIs (fun u (b : V × PyData) => RelV b.1 u) out l → Vals (l.map (·.1)) out
  | _, _, .nil => .nil
  | _, _, .cons r t => .cons r (vals_each t)
theorem call_sortD {X : Cx} (hu : X.A.units + 65 < cLine) : CallR X (.builtin "sorted") (rSortD X.K) := by
  intro pins s σ H ws us Q I rv h
  obtain ⟨a, vs, ds, rfl, hs, hd, hb, h60, q⟩ := h
  rw [Vals.ref1 rv]
  rw [Bool.and_eq_true, Bool.and_eq_true] at hb
  obtain ⟨its, r, pl, hz⟩ := I.list hs
  obtain ⟨as, hr⟩ := Dp.readsAll I ds vs its hd r
  have ln : its.length = ds.length := SeqAt.ReadsAll.length ds its as hr
  have lv := r.length
  have ldv : ds.length = vs.length := by omega
  have hm : (vs.zip ds).map (fun b : V × PyData => b.2) = ds := zip_snd ldv.symm
  refine sorted_data (enc := fun b : V × PyData => b.2) pl.isList (each_rel r ldv) (each_reads hr ldv) (by rw [hm]; exact alike_of hb.1.1) (by rw [hm]; exact sortable_of hb.2) (by rw [List.length_zip]; omega) (fun b hbm => ?_) fun out hl ho => ?_
  · have := depth_le (List.of_mem_zip hbm).2
    omega
  · obtain ⟨ep, he⟩ := PyProof.Rows.sortedAll_at s.heap its out.toArray
    have hp : ((vs.zip ds).mergeSort (dataLe false fun b : V × PyData => b.2)).Perm (vs.zip ds) := List.mergeSort_perm _ _
    have hv := vals_each ho
    refine ⟨.ref _, upd H (s.heap.objs.size + 1) (.lst (((vs.zip ds).mergeSort (dataLe false fun b : V × PyData => b.2)).map (·.1))), I.laid (t' := s.toks) (fun _ _ => PyProof.Rows.sortedAll_old) (Nat.le_succ _) ⟨?_, out, ep, hv, he⟩, rfl, q _ _ hp ?_ (I.hok.fresh (Nat.le_succ _))⟩
    · rw [List.length_map, hp.length_eq, List.length_zip]
      omega
    · unfold sortL
      have mm := List.map_mergeSort (f := fun b : V × PyData => b.2) (l := vs.zip ds) (r := dataLe false fun b : V × PyData => b.2) (s := dataLe false id) fun a _ b _ => rfl
      rw [hm] at mm
      exact mm
theorem ok_sort {K : PySem.W.Frag} : OKN K (rSortD K) (one sortF) true := okn_one fun H v d F d' Q r hd k => by
  cases d with
  | list xs =>
    simp only [sortF] at hd
    split at hd
    · rename_i c
      cases hd
      have c1 := c.1
      rw [Bool.and_eq_true, Bool.and_eq_true] at c1
      obtain ⟨a, vs, G, rfl, hs, l, sub⟩ := r.sqL
      refine ⟨a, vs, xs, rfl, hs, l.dp c1.1.2, c.1, c.2, fun ps p hp hm np => ?_⟩
      obtain ⟨G', q, s⟩ := l.pick (l := ps) fun z m => hp.mem_iff.mp m
      rw [hm] at q
      exact k _ _ _ (res_lst np q fun b m => .inl (sub b (s b m)))
    · cases hd
  | _ => cases hd
end DV

set_option Elab.async false
set_option linter.all false
set_option maxRecDepth 100000
set_option maxHeartbeats 400000
namespace DV
open PySem L2 PySem.Spec
open PyProof.Rows hiding St

/-! ### slices -/
def DO (C : Ct) (U Rv : List Nat) (e : Option Expr) (f : Env → Rs (Option Int)) : Prop :=
  ∃ t : TO, (∀ z, PO (C.X z) e t) ∧ ∀ (σ : L2.St) (H : Hp) (env : Env) (Fs : Nat → List Addr) (Q : Option Int → Hp → Prop), EnvR C.K C.H0 C.M U σ H env Fs →
    (f env).wp (fun o env' => ∀ H' Fs', TPost C U Rv σ H Fs U env' H' Fs' → Q o H') (EC C) → t σ H Q
def noO : Env → Rs (Option Int) := fun env => .ok none env
def intOf : PyData → Option (Option Int)
  | .int i => some (some i)
  | _ => none
def someO (f : Env → Rs PyData) : Env → Rs (Option Int) := fun env => (f env).bind fun d e => Rs.of (intOf d) e
section
variable {C : Ct} {U Rv Rv2 U1 U2 : List Nat} {e a b c : Expr} {f f1 f2 f3 : Env → Rs PyData} {kd k1 k2 : Kd} {lo hi : Option Expr} {fl fh : Env → Rs (Option Int)} {pos p2 : Pos}
theorem do_none : DO C U Rv none noO := ⟨tNoPart, fun _ => po_none, fun σ H env Fs Q R h => h H Fs (TPost.refl R)⟩
theorem do_some (h : DE C U Rv e f U kd) : DO C U Rv (some e) (someO f) := by
  obtain ⟨_, t, tp, ts⟩ := h
  refine ⟨tPart t, fun z => po_some (tp z), fun σ H env Fs Q R hw => ts σ H env Fs _ R ?_⟩
  unfold someO at hw
  rw [wp_bind] at hw
  refine wp_mono hw fun d e1 k v H1 Fs1 F p => ?_
  obtain ⟨o, ho, k⟩ := wp_of k
  have r := p.rep
  cases d with
  | int i =>
    cases ho
    cases r
    exact ⟨i, rfl, k H1 Fs1 p.t⟩
  | _ => cases ho
def cutG {α : Type} (xs : List α) (lo hi : Option Int) : List α := (xs.drop (HT.sIx xs.length 0 lo)).take (HT.sIx xs.length xs.length hi - HT.sIx xs.length 0 lo)
def slD (d : PyData) (lo hi : Option Int) : Option PyData := match d with
  | .list xs => some (.list (cutG xs lo hi))
  | .tuple xs => some (.tuple (cutG xs lo hi))
  | .str z => if z.length ≤ lim then some (.str (cutS z lo hi)) else none
  | _ => none
def isLst : PyData → Bool
  | .list _ => true
  | _ => false
def sliceE (f : Env → Rs PyData) (fl fh : Env → Rs (Option Int)) : Env → Rs PyData := fun env => (f env).bind fun d e => (fl e).bind fun lo e1 => (fh e1).bind fun hi e2 => Rs.of (slD d lo hi) e2
theorem RepL.cut {K : PySem.W.Frag} {H : Hp} {vs : List V} {ds : List PyData} {F : List Addr} (h : RepL K H vs ds F) (lo hi : Option Int) : ∃ G, RepL K H (cutV vs lo hi) (cutG ds lo hi) G ∧ ∀ a ∈ G, a ∈ F := by
  unfold cutV cutG
  rw [h.length]
  obtain ⟨G, h1, s1⟩ := h.drop (HT.sIx ds.length 0 lo)
  obtain ⟨G', h2, s2⟩ := h1.take (HT.sIx ds.length ds.length hi - HT.sIx ds.length 0 lo)
  exact ⟨G', h2, fun a m => s1 a (s2 a m)⟩
def rSlAll (K : PySem.W.Frag) : V → Option Int → Option Int → Hp → VK → Prop := fun x lo hi H Q => rSlL K x lo hi H Q ∨ rSlA K x lo hi H Q ∨ rSlS x lo hi H Q
theorem sl_all {X : Cx} : SlR X (rSlAll X.K) := SlR.or sl_list (SlR.or sl_tupA sl_str)
theorem ok_sl {K : PySem.W.Frag} {H : Hp} {v : V} {d : PyData} {F : List Addr} {d' : PyData} {lo hi : Option Int} {Q : VK} (r : Rep K H v d F) (hd : slD d lo hi = some d') (k : ∀ v' H' F', ResR K H H' v' d' F' (fun a => a ∈ inner d F) false → Q v' H') : rSlAll K v lo hi H Q := by
  cases d with
  | list xs =>
    cases hd
    obtain ⟨a, vs, G, rfl, h1, l, s⟩ := r.sqL
    obtain ⟨G', l', s'⟩ := l.cut lo hi
    exact .inl ⟨a, vs, rfl, h1, fun p np => k _ _ _ (res_lst np l' fun b m => .inl (s b (s' b m)))⟩
  | tuple xs =>
    cases hd
    obtain ⟨a, vs, rfl, h1, l⟩ := r.sqT
    obtain ⟨G', l', s'⟩ := l.cut lo hi
    refine .inr (.inl ⟨a, vs, rfl, h1, fun w => ?_, fun _ p np => k _ _ _ (res_tup np l' fun b m => .inl (by rw [inner_tup]; exact s' b m))⟩)
    have e : cutG xs lo hi = xs := by
      unfold cutG
      rw [l.length] at w
      rw [w.1, w.2, List.drop_zero, Nat.sub_zero, List.take_length]
    have := k (.ref a) H F
    rw [e] at this
    exact this (res_here r fun b m => by rw [inner_tup]; exact m)
  | str z =>
    simp only [slD] at hd
    split at hd
    · rename_i hz
      cases hd
      cases r
      exact .inr (.inr ⟨z, rfl, lim_ok hz, k _ _ _ (res_sc (.str _))⟩)
    · cases hd
  | _ => cases hd
theorem de_slice (he : DE C U Rv e f U1 kd) (hl : DO C U1 Rv2 lo fl) (hh : DO C U1 Rv2 hi fh) (hR : ∀ i ∈ Rv, i ∈ Rv2) (hk : ∀ i, kd = .br i → i ∈ Rv2 ∧ i ∈ U1) : DE C U Rv (.Subscript e (.Slice lo hi none p2) pos) (sliceE f fl fh) U1 .cl := by
  obtain ⟨h1, t, tp, ts⟩ := he
  obtain ⟨u, up, us⟩ := hl
  obtain ⟨w, wp', ws⟩ := hh
  refine ⟨h1, tSl (rSlAll C.K) t u w, fun z => ?_, fun σ H env Fs Q R hw => ts σ H env Fs _ R ?_⟩
  · have := pe_slice (pos := pos) (p2 := p2) (sl_all (X := C.X z)) (tp z) (up z) (wp' z)
    rw [C.hK z] at this
    exact this
  · unfold sliceE at hw
    rw [wp_bind] at hw
    refine wp_mono hw fun d e1 hw v H1 Fs1 F p => us σ H1 e1 Fs1 _ p.env ?_
    rw [wp_bind] at hw
    refine wp_mono hw fun ol e2 hw H2 Fs2 q => ws σ H2 e2 Fs2 _ q.env ?_
    rw [wp_bind] at hw
    refine wp_mono hw fun oh e3 hw H3 Fs3 q2 => ?_
    obtain ⟨d', hd, k⟩ := wp_of hw
    have q12 := q.trans q2 (fun _ z => z) fun _ z => z
    have A := p.ait.later p.env q12 (fun _ z => z) hk fun e => p.knd.clean p.env fun i z => by rw [e] at z; cases z
    have T := p.t.trans q12 h1 hR
    exact ok_sl A.rep hd fun v' H' F' z => k v' H' Fs3 F' (post_of_res T z (fun i hi a e m => A.inn i hi a e m) fun a m => A.fgrow a (inner_sub m))
/-! x[::-1] -/
def revD : PyData → Option PyData
  | .list xs => some (.list xs.reverse)
  | .tuple xs => some (.tuple xs.reverse)
  | _ => none
theorem de_rev {k : Nat} {p1 p3 : Pos} (he : DE C U Rv e f U1 kd) : DE C U Rv (.Subscript e (.Slice none none (some (.UnaryOp .USub (.Constant (.int 1) k p1) p2)) p3) pos) (un1 revD f) U1 .cl := by
  obtain ⟨h1, t, tp, ts⟩ := he
  refine ⟨h1, tRevA C.K t, fun z => ?_, fun σ H env Fs Q R hw => ts σ H env Fs _ R ?_⟩
  · have := pe_revA (k := k) (p1 := p1) (p2 := p2) (p3 := p3) (pos := pos) (tp z)
    rw [C.hK z] at this
    exact this
  · unfold un1 at hw
    rw [wp_bind] at hw
    refine wp_mono hw fun d e1 hw v H1 Fs1 F p => ?_
    obtain ⟨d', hd, k⟩ := wp_of hw
    have fin : ∀ v' H' F', ResR C.K H1 H' v' d' F' (fun a => a ∈ inner d F) false → Q v' H' := fun v' H' F' z => k v' H' Fs1 F' (post_of_res p.t z (fun i hi a e m => p.knd.inn p.env i hi a e m) fun a m => p.fgrow a (inner_sub m))
    cases d with
    | list xs =>
      cases hd
      obtain ⟨a, vs, G, rfl, q1, l, s⟩ := p.rep.sqL
      obtain ⟨G', l', s'⟩ := l.reverse
      exact ⟨a, vs, rfl, .inl ⟨q1, fun p np => fin _ _ _ (res_lst np l' fun b m => .inl (s b (s' b m)))⟩⟩
    | tuple xs =>
      cases hd
      obtain ⟨a, vs, rfl, q1, l⟩ := p.rep.sqT
      obtain ⟨G', l', s'⟩ := l.reverse
      exact ⟨a, vs, rfl, .inr ⟨q1, fun p np => fin _ _ _ (res_tup np l' fun b m => .inl (by rw [inner_tup]; exact s' b m))⟩⟩
    | _ => cases hd

/-! ### a < b < c -/
def chainE (g g' : PyData → PyData → Option PyData) (f1 f2 f3 : Env → Rs PyData) : Env → Rs PyData := fun env => (f1 env).bind fun x e1 => (f2 e1).bind fun y e2 => (Rs.of ((g x y).bind boolOf) e2).bind fun b e3 => if b = true then (f3 e3).bind fun z e4 => Rs.of (g' y z) e4 else .ok (.bool false) e3
theorem chain_run {op op' : CmpOp} {r r' : R2} {g g' : PyData → PyData → Option PyData} (ok : OK2 C.K r g false) (ok' : OK2 C.K r' g' false) (ha : DE C U Rv a f1 U .cl) (hb : DE C U Rv b f2 U .cl) (hc : DE C U Rv c f3 U .cl) :
    ∃ ta tb tc : TE, (∀ x, PE (C.X x) a ta) ∧ (∀ x, PE (C.X x) b tb) ∧ (∀ x, PE (C.X x) c tc) ∧ ∀ (σ : L2.St) (H : Hp) (env : Env) (Fs : Nat → List Addr) (Q : VK), EnvR C.K C.H0 C.M U σ H env Fs →
      (chainE g g' f1 f2 f3 env).wp (fun d env' => ∀ v H' Fs' F, EPost C U Rv σ H Fs U .cl d env' v H' Fs' F → Q v H') (EC C) → tChain r r' ta tb tc σ H Q := by
  obtain ⟨_, t, tp, ts⟩ := ha
  obtain ⟨_, u, up, us⟩ := hb
  obtain ⟨_, w, wp', ws⟩ := hc
  refine ⟨t, u, w, tp, up, wp', fun σ H env Fs Q R hw => ts σ H env Fs _ R ?_⟩
  unfold chainE at hw
  rw [wp_bind] at hw
  refine wp_mono hw fun x e1 hw v H1 Fs1 F p => us σ H1 e1 Fs1 _ p.env ?_
  rw [wp_bind] at hw
  refine wp_mono hw fun y e2 hw v2 H2 Fs2 F2 q => ?_
  rw [wp_bind] at hw
  obtain ⟨bo, hb, hw⟩ := wp_of hw
  cases hg : g x y with
  | none =>
    rw [hg] at hb
    cases hb
  | some d =>
    rw [hg] at hb
    have hd := boolOf_eq (show boolOf d = some bo from hb)
    subst hd
    have A := p.ait.later p.env q.t (fun _ z => z) (fun i z => nomatch z) fun z => nomatch z
    refine ok H2 v v2 x y F F2 (.bool bo) _ A.rep q.rep hg fun v' H3 F3 z => ?_
    have rb := z.rep
    cases rb
    have e2' := p.t.trans q.t (fun _ z => z) fun _ z => z
    have T3 : TPost C U Rv σ H Fs U e2 H3 Fs2 := e2'.trans (⟨e2'.env.same z.same, Keep.same z.same, fun a h => z.same.free h, fun j a h => .inl ⟨j, h⟩⟩ : TPost C U Rv σ H2 Fs2 U e2 H3 Fs2) (fun _ z => z) fun _ z => z
    refine ⟨bo, rfl, ?_⟩
    cases bo with
    | false =>
      simp only [Bool.false_eq_true, if_false] at hw ⊢
      exact (show ∀ v H' Fs' F, EPost C U Rv σ H Fs U .cl (.bool false) e2 v H' Fs' F → Q v H' from hw) _ H3 Fs2 [] ⟨T3.env, T3.keep, T3.dom, T3.grow, .bl _, (fun _ m => nomatch m), Clean.nil, fun z => nomatch z⟩
    | true =>
      simp only [if_true] at hw ⊢
      refine ws σ H3 e2 Fs2 _ T3.env ?_
      rw [wp_bind] at hw
      refine wp_mono hw fun zz e4 hw v4 H4 Fs4 F4 q4 => ?_
      obtain ⟨d', hd, k⟩ := wp_of hw
      have B3 : AIt C U σ H3 Fs H v2 y F2 .cl := ⟨q.rep.same z.same, fun a m => by
        rcases q.fgrow a m with ⟨k, hk⟩ | h
        · exact p.grow k a hk
        · exact .inr (p.dom a h), q.knd.inn q.env, fun _ => q.knd, fun i z => nomatch z⟩
      have B := B3.later T3.env q4.t (fun _ z => z) (fun i z => nomatch z) fun z => nomatch z
      have T4 := T3.trans q4.t (fun _ z => z) fun _ z => z
      refine ok' H4 v2 v4 y zz F2 F4 d' Q B.rep q4.rep hd fun v' H5 F5 z5 => k v' H5 Fs4 F5 (post_of_res T4 z5 (fun i hi a e m => ?_) fun a m => ?_)
      · rcases m with m | m
        · exact B.inn i hi a e m
        · exact q4.knd.inn q4.env i hi a e m
      · rcases m with m | m
        · exact B.fgrow a (inner_sub m)
        · rcases q4.fgrow a (inner_sub m) with ⟨k, hk⟩ | h
          · exact T3.grow k a hk
          · exact .inr (T3.dom a h)
theorem de_chain {op op' : CmpOp} {r r' : R2} {g g' : PyData → PyData → Option PyData} (ho : ∀ z, OpR (C.X z) (compareOp op) r) (ho' : ∀ z, OpR (C.X z) (compareOp op') r') (ok : OK2 C.K r g false) (ok' : OK2 C.K r' g' false) (ha : DE C U Rv a f1 U .cl) (hb : DE C U Rv b f2 U .cl) (hc : DE C U Rv c f3 U .cl)
    (hm : lastMarks [op, op'] [b, c] = false := by with_unfolding_all rfl) : DE C U Rv (.Compare a [op, op'] [b, c] pos) (chainE g g' f1 f2 f3) U .cl := by
  obtain ⟨ta, tb, tc, pa, pb, pc, k⟩ := chain_run (op := op) (op' := op') ok ok' ha hb hc
  exact ⟨fun _ h => h, tChain r r' ta tb tc, fun z => pe_chain (ho z) (ho' z) (pa z) (pb z) (pc z) hm, k⟩
theorem dt_chain {op op' : CmpOp} {r r' : R2} {g g' : PyData → PyData → Option PyData} (ho : ∀ z, OpR (C.X z) (compareOp op) r) (ho' : ∀ z, OpR (C.X z) (compareOp op') r') (ok : OK2 C.K r g false) (ok' : OK2 C.K r' g' false) (ha : DE C U Rv a f1 U .cl) (hb : DE C U Rv b f2 U .cl) (hc : DE C U Rv c f3 U .cl)
    (hm : lastMarks [op, op'] [b, c] = false := by with_unfolding_all rfl) : DT C U Rv (.Compare a [op, op'] [b, c] pos) (asB (chainE g g' f1 f2 f3)) U := by
  obtain ⟨ta, tb, tc, pa, pb, pc, k⟩ := chain_run (op := op) (op' := op') ok ok' ha hb hc
  refine ⟨fun _ h => h, tTest (tChain r r' ta tb tc), fun z => pt_chain (ho z) (ho' z) (pa z) (pb z) (pc z) hm, fun σ H env Fs Q R hw => k σ H env Fs _ R ?_⟩
  unfold asB at hw
  rw [wp_bind] at hw
  refine wp_mono hw fun d e1 hw v H1 Fs1 F p => ?_
  obtain ⟨b, hb, k⟩ := wp_of hw
  have r := p.rep
  cases d <;> simp [boolOf] at hb
  subst hb
  cases r
  exact ⟨_, rfl, k H1 Fs1 p.t⟩
end
end DV

set_option Elab.async false
set_option linter.all false
set_option maxRecDepth 100000
set_option maxHeartbeats 400000
namespace DV
open PySem L2 PySem.Spec
open PyProof.Rows hiding St
open RZ (ItzT iZipA pi_zipA)

/-! ### zip -/
def tupOf : PyData → Option (List PyData)
  | .tuple xs => some xs
  | .dict [(.none, .tuple xs)] => some xs
  | _ => none
def lstOf : PyData → Option (List PyData)
  | .list xs => some xs
  | _ => none
theorem Rep.tupOf {K : PySem.W.Frag} {H : Hp} {v : V} {d : PyData} {F : List Addr} {xs : List PyData} (r : Rep K H v d F) (h : DV.tupOf d = some xs) : ∃ a vs G, v = .ref a ∧ SqT K H a vs ∧ RepL K H vs xs G ∧ ∀ b ∈ G, b ∈ inner d F := by
  cases r with
  | tup e l =>
    cases h
    exact ⟨_, _, _, rfl, SqT.of e, l, fun b m => by rw [inner_tup]; exact m⟩
  | con e =>
    cases h
    exact ⟨_, _, [], rfl, e, repL_ints _, fun b m => nomatch m⟩
  | @dctK a kvs ds F rd l =>
    unfold DV.tupOf at h
    split at h
    · rename_i z; cases z
    · rename_i z
      simp only [PyData.dict.injEq] at z
      exact (zip_key keyD_ne z).elim
    · cases h
  | _ => cases h
theorem Rep.lstOf {K : PySem.W.Frag} {H : Hp} {v : V} {d : PyData} {F : List Addr} {xs : List PyData} (r : Rep K H v d F) (h : DV.lstOf d = some xs) : ∃ a vs G, v = .ref a ∧ SqL K H a vs ∧ RepL K H vs xs G ∧ ∀ b ∈ G, b ∈ inner d F := by
  cases d with
  | list ys =>
    cases h
    exact r.sqL
  | _ => cases h
def zipD : List PyData → Option (List PyData)
  | [d, e] => match lstOf d, lstOf e, tupOf d, tupOf e with
    | some xs, some ys, _, _ => some ((xs.zip ys).map fun p => .tuple [p.1, p.2])
    | _, _, some xs, some ys => some ((xs.zip ys).map fun p => .tuple [p.1, p.2])
    | _, _, _, _ => none
  | _ => none
def zipE (fa : Env → Rs (List PyData)) : Env → Rs (List PyData) := fun env => (fa env).bind fun ds e => Rs.of (zipD ds) e
theorem zip_item {K : PySem.W.Frag} {H : Hp} {vs ws : List V} {xs ys : List PyData} {F G : List Addr} {i : Nat} {T : Addr} {x y : V} {p : PyData × PyData} (l1 : RepL K H vs xs F) (l2 : RepL K H ws ys G) (nT : H T = none) (e1 : vs[i]? = some x) (e2 : ws[i]? = some y) (hp : (xs.zip ys)[i]? = some p) :
    Same H (upd H T (.tup [x, y])) ∧ ∃ Fr, Rep K (upd H T (.tup [x, y])) (.ref T) (.tuple [p.1, p.2]) Fr ∧ ∀ a ∈ Fr, a ∈ F ++ G := by
  rw [List.getElem?_zip_eq_some] at hp
  obtain ⟨G1, r1, s1⟩ := l1.at e1 hp.1
  obtain ⟨G2, r2, s2⟩ := l2.at e2 hp.2
  have sm := same_new (o := .tup [x, y]) nT
  refine ⟨sm, _, .tup upd_same (.cons (r1.same sm) (.cons (r2.same sm) .nil)), fun a m => ?_⟩
  rw [List.append_nil] at m
  rcases List.mem_append.mp m with m | m
  · exact List.mem_append_left _ (s1 a m)
  · exact List.mem_append_right _ (s2 a m)
section
variable {K : PySem.W.Frag} {v w : V} {d e : PyData} {F G : List Addr} {xs ys : List PyData} {a b : Addr}
theorem it_zipT (hd : tupOf d = some xs) (he : tupOf e = some ys) (ev : v = .ref a) (ew : w = .ref b) : ItOk K (ItzT K a b) ((xs.zip ys).map fun p => .tuple [p.1, p.2]) (fun H => Rep K H v d F ∧ Rep K H w e G) (F ++ G) (inner d F ++ inner e G) := by
  refine ⟨fun i H h hi => ?_, fun i H h hi => ?_, fun i H x H' y h hy hp => ?_, fun H H' wr h k hw hn => ⟨h.1.keep k hw fun c m => hn c (List.mem_append_left _ m), h.2.keep k hw fun c m => hn c (List.mem_append_right _ m)⟩⟩
  · obtain ⟨a', vs, G1, e1, q1, l1, _⟩ := h.1.tupOf hd
    obtain ⟨b', ws, G2, e2, q2, l2, _⟩ := h.2.tupOf he
    rw [ev] at e1
    rw [ew] at e2
    cases e1
    cases e2
    rw [List.length_map, List.length_zip, ← l1.length, ← l2.length] at hi
    exact ⟨vs, ws, _, _, q1, q2, List.getElem?_eq_getElem (by omega), List.getElem?_eq_getElem (by omega)⟩
  · obtain ⟨a', vs, G1, e1, q1, l1, _⟩ := h.1.tupOf hd
    obtain ⟨b', ws, G2, e2, q2, l2, _⟩ := h.2.tupOf he
    rw [ev] at e1
    rw [ew] at e2
    cases e1
    cases e2
    rw [List.length_map, List.length_zip, ← l1.length, ← l2.length] at hi
    exact ⟨vs, ws, q1, q2, by omega⟩
  · obtain ⟨a', vs, G1, e1, q1, l1, s1⟩ := h.1.tupOf hd
    obtain ⟨b', ws, G2, e2, q2, l2, s2⟩ := h.2.tupOf he
    rw [ev] at e1
    rw [ew] at e2
    cases e1
    cases e2
    obtain ⟨T, x1, y1, rfl, nT, rfl, f1, f2⟩ := hy
    rw [List.getElem?_map, Option.map_eq_some_iff] at hp
    obtain ⟨p, hp, rfl⟩ := hp
    obtain ⟨sm, Fr, r, s⟩ := zip_item l1 l2 nT (f1 _ q1) (f2 _ q2) hp
    exact ⟨sm, Fr, r, fun c m => (List.mem_append.mp (s c m)).elim (fun z => List.mem_append_left _ (s1 c z)) fun z => List.mem_append_right _ (s2 c z)⟩
theorem it_zipL (hd : lstOf d = some xs) (he : lstOf e = some ys) (ev : v = .ref a) (ew : w = .ref b) : ItOk K (Itz K a b) ((xs.zip ys).map fun p => .tuple [p.1, p.2]) (fun H => Rep K H v d F ∧ Rep K H w e G) (F ++ G) (inner d F ++ inner e G) := by
  refine ⟨fun i H h hi => ?_, fun i H h hi => ?_, fun i H x H' y h hy hp => ?_, fun H H' wr h k hw hn => ⟨h.1.keep k hw fun c m => hn c (List.mem_append_left _ m), h.2.keep k hw fun c m => hn c (List.mem_append_right _ m)⟩⟩
  · obtain ⟨a', vs, G1, e1, q1, l1, _⟩ := h.1.lstOf hd
    obtain ⟨b', ws, G2, e2, q2, l2, _⟩ := h.2.lstOf he
    rw [ev] at e1
    rw [ew] at e2
    cases e1
    cases e2
    rw [List.length_map, List.length_zip, ← l1.length, ← l2.length] at hi
    exact ⟨vs, ws, _, _, q1, q2, List.getElem?_eq_getElem (by omega), List.getElem?_eq_getElem (by omega)⟩
  · obtain ⟨a', vs, G1, e1, q1, l1, _⟩ := h.1.lstOf hd
    obtain ⟨b', ws, G2, e2, q2, l2, _⟩ := h.2.lstOf he
    rw [ev] at e1
    rw [ew] at e2
    cases e1
    cases e2
    rw [List.length_map, List.length_zip, ← l1.length, ← l2.length] at hi
    exact ⟨vs, ws, q1, q2, by omega⟩
  · obtain ⟨a', vs, G1, e1, q1, l1, s1⟩ := h.1.lstOf hd
    obtain ⟨b', ws, G2, e2, q2, l2, s2⟩ := h.2.lstOf he
    rw [ev] at e1
    rw [ew] at e2
    cases e1
    cases e2
    obtain ⟨T, x1, y1, rfl, nT, rfl, f1, f2⟩ := hy
    rw [List.getElem?_map, Option.map_eq_some_iff] at hp
    obtain ⟨p, hp, rfl⟩ := hp
    obtain ⟨sm, Fr, r, s⟩ := zip_item l1 l2 nT (f1 _ q1) (f2 _ q2) hp
    exact ⟨sm, Fr, r, fun c m => (List.mem_append.mp (s c m)).elim (fun z => List.mem_append_left _ (s1 c z)) fun z => List.mem_append_right _ (s2 c z)⟩
end
section
variable {C : Ct} {U Rv U1 : List Nat} {e1 e2 : Expr} {fa : Env → Rs (List PyData)} {kds : List Kd}
theorem di_zip {p pos tpos : Pos} {elts : List Expr} {kk : Nat} (hg : ∀ z, Gl (C.X z) "zip") (hm : ∀ z, (C.X z).mg "zip" = none) (ha : DA C U Rv [e1, e2] fa U1 kds) (hk : allCl kds = true)
    (hs : ∀ z, starEach [e1, e2] (C.X z).env = (false, eval e1 (C.X z).env) :: starEach [e2] (C.X z).env := by intro _; rfl) (hpl : ∀ z, (backTo pos (starEach [e2] (C.X z).env)).any (·.1) = false := by intro _; rfl) :
    DI C U Rv (.Tuple elts kk tpos) (.Call (.Name "zip" p) [e1, e2] [] pos) (zipE fa) U1 [] := by
  obtain ⟨h1, t, tp, ts⟩ := ha
  refine ⟨h1, iZipA C.K t, fun z => ?_, fun σ H env Fs Q R _ hw => ts σ H env Fs _ R ?_⟩
  · have := pi_zipA (p := p) (elts := elts) (kk := kk) (tpos := tpos) (hg z) (hm z) (tp z) (hs z) (hpl z)
    rw [C.hK z] at this
    exact this
  · unfold zipE at hw
    rw [wp_bind] at hw
    refine wp_mono hw fun ds e hw vs H1 Fs1 FF p as => ?_
    obtain ⟨items, hz, k⟩ := wp_of hw
    have cl := as.clean hk
    obtain ⟨_, gr⟩ := as.repL
    cases as with
    | nil => cases hz
    | @cons v d1 F _ vs _ FF _ A as =>
      cases as with
      | nil => cases hz
      | @cons w d2 G _ vs _ FF _ B as =>
        cases as with
        | cons _ _ => cases hz
        | nil =>
          have inFF : ∀ c, c ∈ F ++ G → c ∈ flatF [F, G] := fun c m => by
            show c ∈ F ++ (G ++ [])
            rw [List.append_nil]
            exact m
          have go : ∀ J, ItOk C.K J items (fun H => Rep C.K H v d1 F ∧ Rep C.K H w d2 G) (F ++ G) (inner d1 F ++ inner d2 G) → Q J H1 := fun J ok => by
            have sub : ∀ c, c ∈ inner d1 F ++ inner d2 G → c ∈ F ++ G := fun c m => (List.mem_append.mp m).elim (fun z => List.mem_append_left _ (inner_sub z)) fun z => List.mem_append_right _ (inner_sub z)
            have trk : ∀ c, c ∈ F ++ G → H1 c ≠ none := fun c m => (List.mem_append.mp m).elim (A.rep.trk c) (B.rep.trk c)
            exact k J H1 Fs1 _ _ _ p ok ⟨A.rep, B.rep⟩ (fun i hi _ c ec m => cl i hi c ec (inFF c m)) (cl.sub fun c m => inFF c (sub c m)) (fun c m => gr c (inFF c (sub c m))) fun c m => trk c (m.elim (sub c) id)
          simp only [zipD] at hz
          split at hz
          · rename_i h1 h2
            cases hz
            obtain ⟨a, vs1, G1, rfl, q1, l1, _⟩ := A.rep.lstOf h1
            obtain ⟨b, vs2, G2, rfl, q2, l2, _⟩ := B.rep.lstOf h2
            exact ⟨a, b, vs1, vs2, rfl, .inl ⟨q1, q2, go _ (it_zipL h1 h2 rfl rfl)⟩⟩
          · rename_i h1 h2 _
            cases hz
            obtain ⟨a, vs1, G1, rfl, q1, l1, _⟩ := A.rep.tupOf h1
            obtain ⟨b, vs2, G2, rfl, q2, l2, _⟩ := B.rep.tupOf h2
            exact ⟨a, b, vs1, vs2, rfl, .inr ⟨q1, q2, go _ (it_zipT h1 h2 rfl rfl)⟩⟩
          · cases hz
end
end DV

set_option Elab.async false
set_option linter.all false
set_option maxRecDepth 100000
set_option maxHeartbeats 400000
namespace DV
open PySem L2 PySem.Spec
open PyProof.Rows hiding St

section
variable {C : Ct} {U Rv Rv2 U1 U2 : List Nat} {e o ke ze : Expr} {f fk fz : Env → Rs PyData} {kd k1 k2 : Kd} {pos cpos apos : Pos}
/-! ### d.get(k), d.get(k, z) -/
def getE (f fk : Env → Rs PyData) : Env → Rs PyData := fun env => (f env).bind fun d e => if (entsD d).isSome = true then (fk e).bind fun k e1 => Rs.of ((dget d k).map fun o => o.getD .none) e1 else .bad
def getE2 (f fk fz : Env → Rs PyData) : Env → Rs PyData := fun env => (f env).bind fun d e => if (entsD d).isSome = true then (fk e).bind fun k e1 => (fz e1).bind fun z e2 => Rs.of ((dget d k).map fun o => o.getD z) e2 else .bad
theorem isD_of {K : PySem.W.Frag} {H : Hp} {v : V} {d : PyData} {F : List Addr} (r : Rep K H v d F) (h : (entsD d).isSome = true) : ∃ a, v = .ref a ∧ IsD H a := by
  cases r with
  | dctK rd l => exact ⟨_, rfl, .inl ⟨_, rd⟩⟩
  | dctT rd l => exact ⟨_, rfl, .inr ⟨_, rd⟩⟩
  | con _ => cases h
  | _ => cases h
/-- what is read, or something else -/
theorem get_fin {K : PySem.W.Frag} {H : Hp} {a : Addr} {y z : V} {d k zd d' : PyData} {F Fk Fz : List Addr} {Q : VK} (r : Rep K H (.ref a) d F) (rk : Rep K H y k Fk) (rz : Rep K H z zd Fz) (hd : (dget d k).map (fun o => o.getD zd) = some d')
    (q : ∀ v' H' F', ResR K H H' v' d' F' (fun b => b ∈ inner d F ∨ b ∈ Fz) false → Q v' H') : ∃ o, DGet H a y o ∧ Q (o.getD z) H := by
  cases hg : dget d k with
  | none =>
    rw [hg] at hd
    cases hd
  | some o =>
    rw [hg] at hd
    cases hd
    obtain ⟨a', ea, h | h⟩ := dget_rep r rk hg
    · obtain ⟨x, rfl, u, Fu, g, ru, su⟩ := h
      cases ea
      exact ⟨some u, g, q _ _ _ (res_here ru fun b m => .inl (su b m))⟩
    · obtain ⟨rfl, g⟩ := h
      cases ea
      exact ⟨none, g, q _ _ _ (res_here rz fun b m => .inr m)⟩
theorem de_get (hu : ∀ z, (C.X z).A.units + 1 < cLine) (he : DE C U Rv o f U1 kd) (hK : DE C U1 Rv2 ke fk U2 .cl) (hR : ∀ i ∈ Rv, i ∈ Rv2) (hk : ∀ i, kd = .br i → i ∈ Rv2 ∧ i ∈ U2) (hm : ∀ z, M1 (C.X z) o "get" apos ke cpos := by intro _; exact ⟨rfl, rfl, rfl, rfl⟩) :
    DE C U Rv (.Call (.Attribute o "get" apos) [ke] [] cpos) (getE f fk) U2 .cl := by
  obtain ⟨h1, t, tp, ts⟩ := he
  obtain ⟨g1, u, up, us⟩ := hK
  refine ⟨fun i hi => h1 i (g1 i hi), tDGet1 t u, fun z => pe_dget1 (hu z) (tp z) (up z) (hm z), fun σ H env Fs Q R hw => ts σ H env Fs _ R ?_⟩
  unfold getE at hw
  rw [wp_bind] at hw
  refine wp_mono hw fun d e1 hw v H1 Fs1 F p => ?_
  split at hw
  · rename_i hd
    obtain ⟨a, rfl, id⟩ := isD_of p.rep hd
    refine ⟨a, rfl, id, us σ H1 e1 Fs1 _ p.env ?_⟩
    rw [wp_bind] at hw
    refine wp_mono hw fun k e2 hw y H2 Fs2 F2 q => ?_
    obtain ⟨d', hd', k⟩ := wp_of hw
    have A := p.ait.later p.env q.t g1 hk fun e => p.knd.clean p.env fun i z => by rw [e] at z; cases z
    have T := p.t.trans q.t h1 hR
    refine get_fin (Fz := []) A.rep q.rep .non hd' fun v' H' F' z => k v' H' Fs2 F' (post_of_res T z (fun i hi b e m => m.elim (A.inn i hi b e) fun z => nomatch z) fun b m => m.elim (fun m => A.fgrow b (inner_sub m)) fun z => nomatch z)
  · exact (show False from hw).elim
theorem de_get2 {U3 : List Nat} (hu : ∀ z, (C.X z).A.units + 1 < cLine) (he : DE C U Rv o f U1 kd) (hK : DE C U1 Rv2 ke fk U2 .cl) (hZ : DE C U2 Rv2 ze fz U3 .cl) (hR : ∀ i ∈ Rv, i ∈ Rv2) (hk : ∀ i, kd = .br i → i ∈ Rv2 ∧ i ∈ U3) (hk3 : ∀ i ∈ U3, i ∈ U2) (hm : ∀ z, M2 (C.X z) o "get" apos ke ze cpos := by intro _; exact ⟨rfl, rfl, rfl, rfl⟩) :
    DE C U Rv (.Call (.Attribute o "get" apos) [ke, ze] [] cpos) (getE2 f fk fz) U3 .cl := by
  obtain ⟨h1, t, tp, ts⟩ := he
  obtain ⟨g1, u, up, us⟩ := hK
  obtain ⟨l1, w, wp', ws⟩ := hZ
  refine ⟨fun i hi => h1 i (g1 i (l1 i hi)), tDGet2 t u w, fun z => pe_dget2 (hu z) (tp z) (up z) (wp' z) (hm z), fun σ H env Fs Q R hw => ts σ H env Fs _ R ?_⟩
  unfold getE2 at hw
  rw [wp_bind] at hw
  refine wp_mono hw fun d e1 hw v H1 Fs1 F p => ?_
  split at hw
  · rename_i hd
    obtain ⟨a, rfl, id⟩ := isD_of p.rep hd
    refine ⟨a, rfl, id, us σ H1 e1 Fs1 _ p.env ?_⟩
    rw [wp_bind] at hw
    refine wp_mono hw fun k e2 hw y H2 Fs2 F2 q => ws σ H2 e2 Fs2 _ q.env ?_
    rw [wp_bind] at hw
    refine wp_mono hw fun zd e3 hw z H3 Fs3 F3 q3 => ?_
    obtain ⟨d', hd', k⟩ := wp_of hw
    have q23 := q.t.trans q3.t g1 fun _ z => z
    have A := p.ait.later p.env q23 (fun i hi => g1 i (l1 i hi)) hk fun e => p.knd.clean p.env fun i z => by rw [e] at z; cases z
    have B := q.ait.later q.env q3.t l1 (fun i z => nomatch z) fun z => nomatch z
    have T := p.t.trans q23 h1 hR
    have gr3 : ∀ b ∈ F3, (∃ k, b ∈ Fs k) ∨ H b = none := fun b m => by
      rcases q3.fgrow b m with ⟨k, hk⟩ | h
      · rcases q.grow k b hk with ⟨k, hk⟩ | h
        · exact p.grow k b hk
        · exact .inr (p.dom b h)
      · exact .inr (p.dom b (q.dom b h))
    refine get_fin A.rep B.rep q3.rep hd' fun v' H' F' zz => k v' H' Fs3 F' (post_of_res T zz (fun i hi b e m => m.elim (A.inn i hi b e) fun m => q3.knd i hi b e m) fun b m => m.elim (fun m => A.fgrow b (inner_sub m)) (gr3 b))
  · exact (show False from hw).elim

/-! ### isinstance(x, T) -/
def isF (T : String) (d : PyData) : Option PyData := (kitB (tyOfD d) T).map PyData.bool
theorem de_isi {T : String} {x : Str} {p q : Pos} (hg : ∀ z, Gl (C.X z) "isinstance") (hm : ∀ z, (C.X z).mg "isinstance" = none) (hgT : ∀ z, Gl (C.X z) x) (hmT : ∀ z, (C.X z).mg x = none) (hvT : bootBuiltins x = some (.type T)) (hn : x ≠ "__name__") (hd : (x == ("__debug__" : Str)) = false) (he : DE C U Rv e f U1 kd)
    (hs : ∀ z, starEach [e, .Name x q] (C.X z).env = (false, eval e (C.X z).env) :: starEach [.Name x q] (C.X z).env := by intro _; rfl) (hs2 : ∀ z, starEach [.Name x q] (C.X z).env = (false, eval (.Name x q) (C.X z).env) :: starEach [] (C.X z).env := by intro _; rfl) (hpl : ∀ z, (backTo pos (starEach [.Name x q] (C.X z).env)).any (·.1) = false := by intro _; rfl) :
    DE C U Rv (.Call (.Name "isinstance" p) [e, .Name x q] [] pos) (un1 (isF T) f) U1 .cl := by
  obtain ⟨h1, t, tp, ts⟩ := he
  refine ⟨h1, tCB (rIsB2 C.K T) (tCons t (tCons (tC (.ty T)) tNil)), fun z => ?_, fun σ H env Fs Q R hw => ts σ H env Fs _ R ?_⟩
  · have hc := call_isB (X := C.X z) (T := T)
    rw [C.hK z] at hc
    exact pe_callB hc (hg z) (hm z) PyProof.Rows.boot_isinstance (pa_cons (tp z) (pa_cons (pe_bltn (hgT z) (hmT z) hvT rfl hn hd) pa_nil (hs2 z)) (hs z)) (by decide) (by decide) (hs z) (hpl z)
  · unfold un1 at hw
    rw [wp_bind] at hw
    refine wp_mono hw fun d e1 hw v H1 Fs1 F p => ?_
    obtain ⟨d', hd, k⟩ := wp_of hw
    unfold isF at hd
    cases hb : kitB (tyOfD d) T with
    | none =>
      rw [hb] at hd
      cases hd
    | some b =>
      rw [hb] at hd
      cases hd
      refine ⟨v, rfl, d, F, b, p.rep, hb, k _ H1 Fs1 [] ⟨p.env, p.keep, p.dom, p.grow, .bl b, (fun _ m => nomatch m), Clean.nil, fun z => nomatch z⟩⟩

/-! ### a module's constants -/
theorem de_con {x : Str} {p : Pos} {ns : List Int} {a : Addr} (hg : ∀ z, Gl (C.X z) x) (hm : ∀ z, (C.X z).mg x = some (.ref a)) (hs : ∀ H, SqT C.K H a (ns.map V.int)) (hd : (x == ("__debug__" : Str)) = false) : DE C U Rv (.Name x p) (cstE (.dict [(.none, .tuple (ns.map PyData.int))])) U .cl :=
  de_cst (t := tC (.ref a)) (v := .ref a) (fun z => pe_glob (hg z) (hm z) rfl hd) fun H => .con (hs H)

/-! ### f() -/
def call0E (f : List PyData → Rs PyData) (dfl : List PyData) : Env → Rs PyData := callE f dfl nilA
theorem de_call0 {x : Str} {p : Pos} {n : Nat} {dfl : List PyData} {rk : Kd} {f : List PyData → Rs PyData} (c : CalD C x n 0 dfl [] rk f) (hg : ∀ z, Gl (C.X z) x) (hdb : (x == ("__debug__" : Str)) = false) (hrk : ∀ i, rk ≠ .br i) : DE C U Rv (.Call (.Name x p) [] [] pos) (call0E f dfl) U rk := by
  obtain ⟨dvs, hdv, hz⟩ := c.ex
  refine ⟨fun _ h => h, tCallSD (spD C.K n [] rk f) dvs (WE C.W) tNil, fun z => ?_, fun σ H env Fs Q R hw => ?_⟩
  · obtain ⟨k, fa', fd, ps, dd, q1, q2, q3, q4, q5, q6⟩ := hz z
    exact DV.pe_callG0 q1 q2 (hg z) q3 q4 q5 q6 (passAt (C.tk z)) hdb
  · have A : ArgsR C.K H [] ([] ++ dvs) ([] ++ dfl) ([] ++ dfl.map fun _ => []) := ⟨hdv H, fun _ z => nomatch z⟩
    refine ⟨[] ++ dfl, [] ++ dfl.map fun _ => [], by rw [A.rep.length.1, c.nm]; simp, A, ?_⟩
    unfold call0E callE nilA at hw
    have hw : (match f ([] ++ dfl) with | .ok d _ => (Rs.ok d env : Rs PyData) | .exc c v _ => .exc c v env | .bad => .bad).wp (fun d env' => ∀ v H' Fs' F, EPost C U Rv σ H Fs U rk d env' v H' Fs' F → Q v H') (EC C) := hw
    have none_ : ∀ {j : Nat} {a : Addr}, a ∉ ffAt ([] ++ dfl.map fun _ => ([] : List Addr)) j := fun {j a} m => absurd (ffAt_app (FF := []) (ds := dfl) m).1 (Nat.not_lt_zero _)
    cases q : f ([] ++ dfl) with
    | bad =>
      rw [q] at hw
      exact (show False from hw).elim
    | exc c' v e2 =>
      rw [q] at hw
      exact ⟨rfl, exc_call R hw⟩
    | ok d e2 =>
      rw [q] at hw
      refine fun v H' F Fm P => ?_
      have kp : Keep (fun _ => False) H H' := P.keep.mono fun a ⟨p, h, _⟩ => nomatch h
      have R' := R.still kp P.dom
      have fnew : ∀ a ∈ F, H a = none := fun a m => (P.fgrow a m).elim (fun ⟨j, hj⟩ => absurd hj none_) id
      have clF : Clean U σ F := fun i hi a ea m => by
        obtain ⟨_, _, _, _, _, _, _, q, _⟩ := R.root hi ea
        exact q.ne (fnew a m)
      refine (show ∀ v H' Fs' F, EPost C U Rv σ H Fs U rk d env v H' Fs' F → Q v H' from hw) v H' Fs F ⟨R', kp.mono fun _ z => z.elim, P.dom, fun j a h => .inl ⟨j, h⟩, P.rep, fun a m => .inr (fnew a m), ?_, fun e a ha => ?_⟩
      · cases rk with
        | cl => exact clF
        | fr =>
          obtain ⟨a, G, e1, e2, z1, z2, z3, z4, _⟩ := P.new rfl
          subst e2
          exact ⟨a, G, e1, rfl, z1, z2, fun j m => R.trk m z3, z4, R.dom a z3, clF.sub fun b m => List.mem_cons_of_mem _ m⟩
        | br i => exact absurd rfl (hrk i)
      · exact .inl (fnew a (by
          obtain ⟨b, G, e1, e2, _⟩ := P.new e
          rw [ha] at e1
          cases e1
          rw [e2]
          exact List.mem_cons_self))
end
end DV

set_option Elab.async false
set_option linter.all false
set_option maxRecDepth 100000
set_option maxHeartbeats 400000
namespace DV
open PySem L2 PySem.Spec
open PyProof.Rows hiding St

/-! ### f(.., k = v, ..) -/
def permG {α : Type} (π : List Nat) (l : List α) : List α := π.filterMap fun i => l[i]?
theorem perm_vals {vs : List V} {us : List Value} (r : Vals vs us) : ∀ π : List Nat, Vals (permG π vs) (permG π us)
  | [] => .nil
  | i :: π => by
    unfold permG
    rw [List.filterMap_cons, List.filterMap_cons]
    have ih := perm_vals r π
    unfold permG at ih
    cases e : vs[i]? with
    | none =>
      have : us[i]? = none := List.getElem?_eq_none (by rw [← r.length]; exact List.getElem?_eq_none_iff.mp e)
      rw [this]
      exact ih
    | some v =>
      obtain ⟨u, eu, ru⟩ := r.get e
      rw [eu]
      exact .cons ru ih
theorem perm_rep {K : PySem.W.Frag} {H : Hp} {vs : List V} {ds : List PyData} {FF : List (List Addr)} (r : RepE K H vs ds FF) : ∀ π : List Nat, RepE K H (permG π vs) (permG π ds) (permG π FF)
  | [] => .nil
  | i :: π => by
    unfold permG
    rw [List.filterMap_cons, List.filterMap_cons, List.filterMap_cons]
    have ih := perm_rep r π
    unfold permG at ih
    cases e : ds[i]? with
    | none =>
      have hl := List.getElem?_eq_none_iff.mp e
      rw [List.getElem?_eq_none (l := vs) (by rw [r.length.1]; exact hl), List.getElem?_eq_none (l := FF) (by rw [r.length.2]; exact hl)]
      exact ih
    | some d =>
      obtain ⟨v, ev, rv⟩ := r.get e
      have hl : i < ds.length := (List.getElem?_eq_some_iff.mp e).1
      have ef := List.getElem?_eq_getElem (l := FF) (i := i) (by rw [r.length.2]; exact hl)
      rw [ev, ef]
      have : ffAt FF i = FF[i]'(by rw [r.length.2]; exact hl) := by
        unfold ffAt
        rw [List.getD_eq_getElem?_getD, ef]
        rfl
      rw [this] at rv
      exact .cons rv ih
theorem perm_ff {FF : List (List Addr)} {a : Addr} : ∀ {π : List Nat} {j : Nat}, a ∈ ffAt (permG π FF) j → ∃ i, a ∈ ffAt FF i := fun {π j} h => by
  unfold ffAt at h
  rw [List.getD_eq_getElem?_getD] at h
  cases e : (permG π FF)[j]? with
  | none =>
    rw [e] at h
    cases h
  | some F =>
    rw [e] at h
    have hm := List.mem_of_getElem? e
    unfold permG at hm
    rw [List.mem_filterMap] at hm
    obtain ⟨i, _, hi⟩ := hm
    refine ⟨i, ?_⟩
    unfold ffAt
    rw [List.getD_eq_getElem?_getD, hi]
    exact h
def DK (C : Ct) (U Rv : List Nat) (kws : List Keyword) (f : Env → Rs (List PyData)) (U' : List Nat) (kds : List Kd) : Prop :=
  (∀ i ∈ U', i ∈ U) ∧ ∃ t : TA, (∀ x, PK (C.X x) kws t) ∧ ∀ (σ : L2.St) (H : Hp) (env : Env) (Fs : Nat → List Addr) (Q : List V → Hp → Prop), EnvR C.K C.H0 C.M U σ H env Fs →
    (f env).wp (fun ds env' => ∀ vs H' Fs' FF, TPost C U Rv σ H Fs U' env' H' Fs' → AIts C U' σ H' Fs H vs ds FF kds → Q vs H') (EC C) → t σ H Q
structure CalK (C : Ct) (x : Str) (n m : Nat) (ks : List Str) (π : List Nat) (rk : Kd) (f : List PyData → Rs PyData) : Prop where
  nm : π.length = n
  lt : ∀ i ∈ π, i < m + ks.length
  ex : ∀ z, ∃ (k : Nat) (fa : Addr) (fd : FuncData) (ps : List Str),
    FnG (C.X z).prog (C.X z).w (C.X z).K (C.X z).mg (C.X z).base k fa fd ps (spD C.K n [] rk f) ∧ (Room k (C.X z).A ∧ (C.X z).A.guards = some []) ∧ (C.X z).mg x = some (.ref fa) ∧ PySem.W.keepIn (C.X z).K (.ref fa) = true ∧
      ∀ (s : Shared) (us ws : List Value), (C.X z).K.In s.heap → us.length = m → ws.length = ks.length → BindsTo s fd ⟨us, ks.zip ws⟩ (ps.zip (permG π (us ++ ws)))
def callKE (π : List Nat) (f : List PyData → Rs PyData) (fa fk : Env → Rs (List PyData)) : Env → Rs PyData := fun env => (fa env).bind fun ds e1 => (fk e1).bind fun zs e => match f (permG π (ds ++ zs)) with
  | .ok d _ => .ok d e
  | .exc c v _ => .exc c v e
  | .bad => .bad
def tCallKG (m n : Nat) (π : List Nat) (sp : Sp) (E : L2.St → XK) (t tk : TA) : TE := fun σ H Q => t σ H fun vs H1 => tk σ H1 fun zs H2 => vs.length = m ∧ zs.length = n ∧ sp (permG π (vs ++ zs)) H2 Q (E σ)
theorem perm_len {α : Type} {l : List α} : ∀ {π : List Nat}, (∀ i ∈ π, i < l.length) → (permG π l).length = π.length
  | [], _ => rfl
  | i :: π, h => by
    unfold permG
    rw [List.filterMap_cons, List.getElem?_eq_getElem (h i List.mem_cons_self)]
    have := perm_len (l := l) (π := π) fun j hj => h j (List.mem_cons_of_mem _ hj)
    unfold permG at this
    simp [this]
section
variable {X : Cx} {k m : Nat} {f : Addr} {fd : FuncData} {ps ks : List Str} {sp : Sp} {E : L2.St → XK} {x : Str} {p pos : Pos} {e : Expr} {es : List Expr} {kws : List Keyword} {t tk : TA} {π : List Nat}
theorem run_fnKG {pins : List (Addr × Obj)} {σ : L2.St} {H : Hp} {s : Shared} {Q : VK} {us ws : List Value} {vs zs : List V} (F : FnG X.prog X.w X.K X.mg X.base k f fd ps sp) (hr : Room k X.A ∧ X.A.guards = some []) (hb : ∀ (s : Shared) (us ws : List Value), X.K.In s.heap → us.length = m → ws.length = ks.length → BindsTo s fd ⟨us, ks.zip ws⟩ (ps.zip (permG π (us ++ ws)))) (hx : PassesAt (L2.CX X.prog X.w) X σ (E σ))
    (I : Inv X pins σ H s) (r : Vals vs us) (rz : Vals zs ws) (l1 : vs.length = m) (l2 : zs.length = ks.length) (prom : sp (permG π (vs ++ zs)) H Q (E σ)) : wpAny (model X.prog X.w) X.A (call (.ref f) us (ks.zip ws)) (EP X pins σ Q) X.xe s := by
  refine wpAny_call (codeAny_mono (F.run X.A X.stack s H ⟨us, ks.zip ws⟩ (permG π (us ++ ws)) (permG π (vs ++ zs)) Q (E σ) hr.1 hr.2 I.env0 (hb s us ws I.kIn (r.length.symm.trans l1) (rz.length.symm.trans l2)) (perm_vals (r.append rz) π) prom) fun out s' o => ?_)
  match out, o with
  | .error e, o => exact hx pins H s e s' I o
  | .ok (.ret u), o => exact I.after o
  | .ok .next, o => exact o.elim
  | .ok .brk, o => exact o.elim
  | .ok .cont, o => exact o.elim
theorem pe_callKG (F : FnG X.prog X.w X.K X.mg X.base k f fd ps sp) (hr : Room k X.A ∧ X.A.guards = some []) (hg : Gl X x) (hm : X.mg x = some (.ref f)) (hk : PySem.W.keepIn X.K (.ref f) = true) (hb : ∀ (s : Shared) (us ws : List Value), X.K.In s.heap → us.length = m → ws.length = ks.length → BindsTo s fd ⟨us, ks.zip ws⟩ (ps.zip (permG π (us ++ ws)))) (hx : ∀ σ, PassesAt (L2.CX X.prog X.w) X σ (E σ))
    (ha : PA X (e :: es) t) (hkw : PK X kws tk) (hall : (backToKw pos (keywordEach kws X.env)).all (·.1.isSome) = true) (hks : (backToKw pos (keywordEach kws X.env)).filterMap (·.1) = ks) (hdb : (x == ("__debug__" : Str)) = false) (he : starEach (e :: es) X.env = (false, eval e X.env) :: starEach es X.env)
    (hpl : ((backTo pos (starEach (e :: es) X.env)).any (·.1) || (backToKw pos (keywordEach kws X.env)).any (·.1.isNone)) = false) : PE X (.Call (.Name x p) (e :: es) kws pos) (tCallKG m ks.length π sp E t tk) := by
  refine ⟨fun pins s σ H Q I want => wpAny_Call_Name_kw (ld_glob I hg hm (PySem.W.callWith_KW (h₀ := X.base) I.ok.mod.kin hk hall (thn (ha.run pos pins s σ H _ I want) fun us s1 got => ?_) hpl he) hdb)⟩
  obtain ⟨vs, H1, I1, r, q⟩ := got
  refine thn (hkw.run pos pins s1 σ H1 _ I1 q) fun ws s2 got => ?_
  obtain ⟨zs, H2, I2, rz, l1, l2, q2⟩ := got
  refine ⟨I2.kIn, ?_⟩
  rw [hks]
  exact run_fnKG F hr hb (hx σ) I2 r rz l1 l2 q2
theorem pe_callKG0 (F : FnG X.prog X.w X.K X.mg X.base k f fd ps sp) (hr : Room k X.A ∧ X.A.guards = some []) (hg : Gl X x) (hm : X.mg x = some (.ref f)) (hk : PySem.W.keepIn X.K (.ref f) = true) (hb : ∀ (s : Shared) (us ws : List Value), X.K.In s.heap → us.length = 0 → ws.length = ks.length → BindsTo s fd ⟨us, ks.zip ws⟩ (ps.zip (permG π (us ++ ws)))) (hx : ∀ σ, PassesAt (L2.CX X.prog X.w) X σ (E σ))
    (hkw : PK X kws tk) (hall : (backToKw pos (keywordEach kws X.env)).all (·.1.isSome) = true) (hks : (backToKw pos (keywordEach kws X.env)).filterMap (·.1) = ks) (hdb : (x == ("__debug__" : Str)) = false)
    (hpl : ((backTo pos (starEach [] X.env)).any (·.1) || (backToKw pos (keywordEach kws X.env)).any (·.1.isNone)) = false) : PE X (.Call (.Name x p) [] kws pos) (tCallKG 0 ks.length π sp E tNil tk) := by
  refine ⟨fun pins s σ H Q I want => wpAny_Call_Name_kw (ld_glob I hg hm (PySem.W.callWith_KW0 (h₀ := X.base) (first := []) I.ok.mod.kin hk hall (thn (hkw.run pos pins s σ H _ I want) fun ws s2 got => ?_) hpl) hdb)⟩
  obtain ⟨zs, H2, I2, rz, l1, l2, q2⟩ := got
  refine ⟨I2.kIn, ?_⟩
  rw [hks]
  exact run_fnKG (us := []) (vs := []) F hr hb (hx σ) I2 .nil rz rfl l2 q2
end
section
variable {C : Ct} {U Rv Rv2 U1 U2 : List Nat} {e : Expr} {es : List Expr} {kws : List Keyword} {nm : Option Str} {kpos pos : Pos} {f : Env → Rs PyData} {fa fk : Env → Rs (List PyData)} {kd : Kd} {kds kds2 : List Kd}
theorem dk_nil : DK C U Rv [] nilA U [] := ⟨fun _ h => h, tNil, fun _ => pk_nil, fun σ H env Fs Q R h => h [] H Fs [] (TPost.refl R) .nil⟩
theorem dk_cons (ha : DE C U Rv e f U1 kd) (hb : DK C U1 Rv2 kws fk U2 kds) (hR : ∀ i ∈ Rv, i ∈ Rv2) (hk : ∀ i, kd = .br i → i ∈ Rv2 ∧ i ∈ U2) : DK C U Rv (⟨nm, e, kpos⟩ :: kws) (consA f fk) U2 (kd :: kds) := by
  obtain ⟨h1, t, hp, hs⟩ := ha
  obtain ⟨h1', t', hp', hs'⟩ := hb
  refine ⟨fun i hi => h1 i (h1' i hi), tCons t t', fun x => pk_cons (hp x) (hp' x), fun σ H env Fs Q R hw => hs σ H env Fs _ R ?_⟩
  unfold consA at hw
  rw [wp_bind] at hw
  refine wp_mono hw fun d e1 hw v H1 Fs1 F p => hs' σ H1 e1 Fs1 _ p.env ?_
  rw [wp_bind] at hw
  refine wp_mono hw fun ds e2 hw vs H2 Fs2 FF q as => ?_
  refine hw (v :: vs) H2 Fs2 (F :: FF) (p.t.trans q h1 hR) (.cons (p.ait.later p.env q h1' hk fun e => p.knd.clean p.env fun i z => by rw [e] at z; cases z) (as.back fun a h => ?_))
  rcases h with ⟨k, hk⟩ | h
  · exact p.grow k a hk
  · exact .inr (p.dom a h)
/-- behind the arguments -/
theorem callK_fin {x : Str} {n m : Nat} {ks : List Str} {π : List Nat} {rk : Kd} {g : List PyData → Rs PyData} (c : CalK C x n m ks π rk g) (hrk : ∀ i, rk ≠ .br i) {σ : L2.St} {H H2 : Hp} {Fs Fs2 : Nat → List Addr} {env e2 : Env} {vs : List V} {ds : List PyData} {FF : List (List Addr)} {kds : List Kd} {Q : VK}
    (T : TPost C U Rv σ H Fs U2 e2 H2 Fs2) (as : AIts C U2 σ H2 Fs H vs ds FF kds) (hl : kds.length = m + ks.length) (hk : allCl kds = true)
    (hw : (match g (permG π ds) with | .ok d _ => (Rs.ok d e2 : Rs PyData) | .exc c v _ => .exc c v e2 | .bad => .bad).wp (fun d env' => ∀ v H' Fs' F, EPost C U Rv σ H Fs U2 rk d env' v H' Fs' F → Q v H') (EC C)) : spD C.K n [] rk g (permG π vs) H2 Q (WE C.W σ) := by
  have ln := as.len
  have rp := perm_rep as.repE.1 π
  refine ⟨permG π ds, permG π FF, by rw [perm_len (fun i hi => by rw [ln.1, hl]; exact c.lt i hi), c.nm], ⟨rp, fun _ z => nomatch z⟩, ?_⟩
  have cl := as.clean hk
  have inF : ∀ {j : Nat} {a : Addr}, a ∈ ffAt (permG π FF) j → a ∈ flatF FF := fun {j a} h => by
    obtain ⟨i, h⟩ := perm_ff h
    have hf : ∀ (FF : List (List Addr)) (j : Nat), a ∈ ffAt FF j → a ∈ flatF FF := fun FF => by
      induction FF with
      | nil =>
        intro j h
        simp [ffAt] at h
      | cons F r ih =>
        intro j h
        cases j with
        | zero => exact List.mem_append_left _ (by simpa [ffAt] using h)
        | succ j => exact List.mem_append_right _ (ih j (by simpa [ffAt] using h))
    exact hf FF i h
  cases q : g (permG π ds) with
  | bad =>
    rw [q] at hw
    exact (show False from hw).elim
  | exc c' v e3 =>
    rw [q] at hw
    exact ⟨rfl, exc_call T.env hw⟩
  | ok d e3 =>
    rw [q] at hw
    refine fun v H' F Fm P => ?_
    have kp : Keep (fun _ => False) H2 H' := P.keep.mono fun a ⟨p, h, _⟩ => nomatch h
    have R' := T.env.still kp P.dom
    have clF : Clean U2 σ F := fun i hi a ea m => by
      rcases P.fgrow a m with ⟨j, hj⟩ | z
      · exact cl i hi a ea (inF hj)
      · obtain ⟨_, _, _, _, _, _, _, q, _⟩ := T.env.root hi ea
        exact q.ne z
    refine (show ∀ v H' Fs' F, EPost C U Rv σ H Fs U2 rk d e2 v H' Fs' F → Q v H' from hw) v H' Fs2 F ⟨R', T.keep.trans kp fun _ _ z => z.elim, fun a e => T.dom a (P.dom a e), T.grow, P.rep, fun a m => ?_, ?_, fun e a ha => ?_⟩
    · rcases P.fgrow a m with ⟨j, hj⟩ | z
      · exact as.repL.2 a (inF hj)
      · exact .inr (T.dom a z)
    · cases rk with
      | cl => exact clF
      | fr =>
        obtain ⟨a, G, e1, e2, z1, z2, z3, z4, _⟩ := P.new rfl
        subst e2
        exact ⟨a, G, e1, rfl, z1, z2, fun j m => T.env.trk m z3, z4, T.env.dom a z3, clF.sub fun b m => List.mem_cons_of_mem _ m⟩
      | br i => exact absurd rfl (hrk i)
    · obtain ⟨b, G, e1, _, _, _, z3, _⟩ := P.new e
      rw [ha] at e1
      cases e1
      exact .inl (T.dom a z3)
theorem de_callK0 {x : Str} {p : Pos} {n : Nat} {ks : List Str} {π : List Nat} {rk : Kd} {g : List PyData → Rs PyData} (c : CalK C x n 0 ks π rk g) (hg : ∀ z, Gl (C.X z) x) (hdb : (x == ("__debug__" : Str)) = false) (hkw : DK C U Rv kws fk U2 kds) (hm : kds.length = ks.length) (hk : allCl kds = true) (hrk : ∀ i, rk ≠ .br i)
    (hall : ∀ z, (backToKw pos (keywordEach kws (C.X z).env)).all (·.1.isSome) = true := by intro _; rfl) (hks : ∀ z, (backToKw pos (keywordEach kws (C.X z).env)).filterMap (·.1) = ks := by intro _; rfl)
    (hpl : ∀ z, ((backTo pos (starEach [] (C.X z).env)).any (·.1) || (backToKw pos (keywordEach kws (C.X z).env)).any (·.1.isNone)) = false := by intro _; rfl) :
    DE C U Rv (.Call (.Name x p) [] kws pos) (callKE π g nilA fk) U2 rk := by
  obtain ⟨h1, t, tp, ts⟩ := hkw
  refine ⟨h1, tCallKG 0 ks.length π (spD C.K n [] rk g) (WE C.W) tNil t, fun z => ?_, fun σ H env Fs Q R hw => ts σ H env Fs _ R ?_⟩
  · obtain ⟨k, fa', fd, ps, q1, q2, q3, q4, q5⟩ := c.ex z
    exact DV.pe_callKG0 q1 q2 (hg z) q3 q4 q5 (passAt (C.tk z)) (tp z) (hall z) (hks z) hdb (hpl z)
  · have hw : ((fk env).bind fun zs e => match g (permG π ([] ++ zs)) with | .ok d _ => (Rs.ok d e : Rs PyData) | .exc c v _ => .exc c v e | .bad => .bad).wp (fun d env' => ∀ v H' Fs' F, EPost C U Rv σ H Fs U2 rk d env' v H' Fs' F → Q v H') (EC C) := hw
    rw [wp_bind] at hw
    refine wp_mono hw fun zs e2 hw vs H2 Fs2 FF T as => ?_
    exact ⟨rfl, by rw [as.len.1, hm], callK_fin (env := env) c hrk T as (by rw [hm, Nat.zero_add]) hk hw⟩
end
end DV

set_option Elab.async false
set_option linter.all false
set_option maxRecDepth 100000
set_option maxHeartbeats 400000
namespace DV
open PySem L2 PySem.Spec
open PyProof.Rows hiding St

/-! ### what a body may lean on, at once -/
structure CtW (C : Ct) (bs : List Str) (M : List Nat) : Prop where
  mE : C.M = M
  mg : ∀ z (j : Nat) (x : Str), bs[j]? = some x → (C.X z).mg x = none
  cm : ∀ z, (C.X z).calm = true
  rm : ∀ z, Room 0 (C.X z).A
  gd : ∀ z, (C.X z).A.guards = some []
structure CtP (C : Ct) : Prop where
  po : ∀ z, PassesOwn (model (C.X z).prog (C.X z).w) (C.X z).A (C.X z).env (C.X z).xe
section
variable {C : Ct} {bs : List Str} {M : List Nat} {N : List Str} {sc scope : Scope} {fnv fnv' : Str → Bool} {vb lb vb' lb' : List Bool} {gs gs' : List Str}
theorem CtW.u1 (W : CtW C bs M) : ∀ z, (C.X z).A.units + 1 < cLine := fun z => by
  have := (W.rm z).un
  omega
theorem CtW.u0 (W : CtW C bs M) : ∀ z, (C.X z).A.units < cLine := fun z => by
  have := (W.rm z).un
  omega
theorem CtW.u65 (W : CtW C bs M) : ∀ z, (C.X z).A.units + 65 < cLine := fun z => by
  have := (W.rm z).un
  omega
theorem CtW.blk (W : CtW C bs M) : CtW (blkC C scope) bs M := ⟨W.mE, fun z => W.mg z.1, fun z => W.cm z.1, fun z => W.rm z.1, fun z => W.gd z.1⟩
theorem CtF.blk (F : CtF C N sc fnv vb lb gs) (h : chkN N (relS scope sc) (fun x => scope.names.lookup x == some .cell) vb' lb' gs' = true) : CtF (blkC C scope) N (relS scope sc) (fun x => scope.names.lookup x == some .cell) vb' lb' gs' :=
  ⟨fun z => F.n z.1, fun z => by
    show relS scope (C.X z.1).env.scope = _
    rw [F.s z.1], fun z y h => h, h⟩
theorem CalD.blk {x : Str} {n m : Nat} {dfl : List PyData} {M : List Nat} {rk : Kd} {f : List PyData → Rs PyData} (c : CalD C x n m dfl M rk f) : CalD (blkC C scope) x n m dfl M rk f := ⟨c.nm, c.lt, let ⟨dvs, h1, h2⟩ := c.ex; ⟨dvs, h1, fun z => h2 z.1⟩⟩
theorem CalK.blk {x : Str} {n m : Nat} {ks : List Str} {π : List Nat} {rk : Kd} {f : List PyData → Rs PyData} (c : CalK C x n m ks π rk f) : CalK (blkC C scope) x n m ks π rk f := ⟨c.nm, c.lt, fun z => c.ex z.1⟩

variable {U Rv Rv2 U1 U2 : List Nat} {a b e : Expr} {es : List Expr} {f f1 f2 : Env → Rs PyData} {fa : Env → Rs (List PyData)} {kd k1 k2 : Kd} {kds : List Kd} {pos : Pos} {x : Str}
/-! operators -/
section
variable (C)
theorem o_add : ∀ z, OpR (C.X z) (binaryOp .Add) (rAdd C.K) := fun z => C.hK z ▸ op_addD
theorem o_sub : ∀ z, OpR (C.X z) (binaryOp .Sub) (rI0 fun i j => .int (i - j)) := fun z => op_sub
theorem o_mul : ∀ z, OpR (C.X z) (binaryOp .Mult) (rI (fun i j => mulOk i j = true) fun i j => .int (i * j)) := fun z => op_mulD
theorem o_mod : ∀ z, OpR (C.X z) (binaryOp .Mod) (rI (fun _ j => j ≠ 0) fun i j => .int (i.fmod j)) := fun z => op_modN
theorem o_fdiv : ∀ z, OpR (C.X z) (binaryOp .FloorDiv) (rI CDivN fun i j => .int (i.fdiv j)) := fun z => op_fdivN
theorem o_pow : ∀ z, OpR (C.X z) (binaryOp .Pow) (rI CPow fun i j => .int (i ^ j.toNat)) := fun z => op_pow
theorem o_lt (W : CtW C bs M) : ∀ z, OpR (C.X z) (compareOp .Lt) (rLtA C.K) := fun z => C.hK z ▸ op_ltA (W.u0 z)
theorem o_le : ∀ z, OpR (C.X z) (compareOp .LtE) (rI0 fun i j => .bl (decide (i ≤ j))) := fun z => op_le
theorem o_gt : ∀ z, OpR (C.X z) (compareOp .Gt) (rI0 fun i j => .bl (decide (j < i))) := fun z => op_gt
theorem o_ge : ∀ z, OpR (C.X z) (compareOp .GtE) (rI0 fun i j => .bl (decide (j ≤ i))) := fun z => op_ge
theorem o_eq (W : CtW C bs M) : ∀ z, OpR (C.X z) (compareOp .Eq) (rEqD C.K) := fun z => C.hK z ▸ op_eqD (by have := W.u65 z; omega)
theorem o_ne (W : CtW C bs M) : ∀ z, OpR (C.X z) (compareOp .NotEq) (rNeD C.K) := fun z => C.hK z ▸ op_neD (by have := W.u65 z; omega)
theorem o_in (W : CtW C bs M) : ∀ z, OpR (C.X z) (compareOp .In) (rInA C.K false) := fun z => C.hK z ▸ op_inA (W.u65 z)
theorem o_ni (W : CtW C bs M) : ∀ z, OpR (C.X z) (compareOp .NotIn) (rInA C.K true) := fun z => C.hK z ▸ op_notInA (W.u65 z)
theorem o_isN : ∀ z, OpR (C.X z) (compareOp .Is) (fun x y H Q => y = .non ∧ Q (.bl (decide (x = .non))) H) := fun z => op_isN
theorem o_noN : ∀ z, OpR (C.X z) (compareOp .IsNot) (fun x y H Q => y = .non ∧ Q (.bl (!decide (x = .non))) H) := fun z => op_notN
theorem o_isB : ∀ z, OpR (C.X z) (compareOp .Is) (fun x y H Q => ∃ a b, x = .bl a ∧ y = .bl b ∧ Q (.bl (decide (a = b))) H) := fun z => op_is_bl
theorem o_noB : ∀ z, OpR (C.X z) (compareOp .IsNot) (fun x y H Q => ∃ a b, x = .bl a ∧ y = .bl b ∧ Q (.bl (!decide (a = b))) H) := fun z => op_isnot_bl
theorem o_neg : ∀ z, UnR (C.X z) (unaryOp .USub) (rU fun i => .int (-i)) := fun z => un_neg
theorem o_ix (W : CtW C bs M) : ∀ z, IxR (C.X z) (rIxA C.K) := fun z => C.hK z ▸ ix_all (W.u1 z)
/-! built-ins -/
theorem c_len : ∀ z, CallR (C.X z) (.builtin "len") (rLenA C.K) := fun z => C.hK z ▸ call_lenA
theorem c_abs : ∀ z, CallR (C.X z) (.builtin "abs") (fun xs H Q => ∃ i, xs = [.int i] ∧ Q (.int (if i < 0 then -i else i)) H) := fun z => call_abs
theorem c_int : ∀ z, CallR (C.X z) (.type "int") (fun xs H Q => (∃ i, xs = [.int i] ∧ Q (.int i) H) ∨ ∃ k, xs = [.bl k] ∧ Q (.int (if k then 1 else 0)) H) := fun z => call_int1
theorem c_sum (W : CtW C bs M) : ∀ z, CallR (C.X z) (.builtin "sum") (rSum C.K) := fun z => C.hK z ▸ cr_sum (W.cm z)
theorem c_any (W : CtW C bs M) : ∀ z, CallR (C.X z) (.builtin "any") (rAny C.K) := fun z => C.hK z ▸ cr_any (W.cm z)
theorem c_all (W : CtW C bs M) : ∀ z, CallR (C.X z) (.builtin "all") (rAll C.K) := fun z => C.hK z ▸ cr_all (W.cm z)
theorem c_tup : ∀ z, CallR (C.X z) (.type "tuple") (fun xs H Q => ∃ p ys, xs = [.ref p] ∧ ((SqL C.K H p ys ∧ ∀ l, H l = none → Q (.ref l) (upd H l (.tup ys))) ∨ (SqT C.K H p ys ∧ Q (.ref p) H))) := fun z => C.hK z ▸ call_tuple_of
theorem c_lst : ∀ z, CallR (C.X z) (.type "list") (fun xs H Q => ∃ p ys, xs = [.ref p] ∧ (SqL C.K H p ys ∨ SqT C.K H p ys) ∧ ∀ l, H l = none → Q (.ref l) (upd H l (.lst ys))) := fun z => C.hK z ▸ call_list_of
theorem c_rep (W : CtW C bs M) : ∀ z, CallR (C.X z) (.builtin "repr") (rReprD C.K) := fun z => C.hK z ▸ call_reprD (W.u65 z) (W.gd z)
theorem c_str : ∀ z, CallR (C.X z) (.type "str") (fun xs H Q => ∃ i, xs = [.int i] ∧ i.natAbs.log2 < 1920 ∧ Q (.str (toString i)) H) := fun z => call_str_int
theorem c_min (W : CtW C bs M) : ∀ z, CallR (C.X z) (.builtin "min") (rBest C.K PySem.W.minD) := fun z => C.hK z ▸ call_minA (W.cm z) (W.u65 z)
theorem c_max (W : CtW C bs M) : ∀ z, CallR (C.X z) (.builtin "max") (rBest C.K PySem.W.maxD) := fun z => C.hK z ▸ call_maxA (W.cm z) (W.u65 z)
theorem c_sor (W : CtW C bs M) : ∀ z, CallR (C.X z) (.builtin "sorted") (rSortD C.K) := fun z => C.hK z ▸ call_sortD (W.u65 z)
end
/-- a built-in function of some arguments -/
theorem bu_ {id : String} {r : List V → Hp → VK → Prop} {g : List PyData → Option PyData} {fr : Bool} {p : Pos} (W : CtW C bs M) (F : CtF C N sc fnv vb lb gs) (j l : Nat) (hj : gs[j]? = some x) (hl : bs[l]? = some x) (hv : bootBuiltins x = some (.builtin id)) (hc : ∀ x, CallR (C.X x) (.builtin id) r) (ok : OKN C.K r g fr) (ha : DA C U Rv (e :: es) fa U1 kds)
    (he : ∀ z, starEach (e :: es) (C.X z).env = (false, eval e (C.X z).env) :: starEach es (C.X z).env := by intro _; rfl) (hpl : ∀ z, (backTo pos (starEach es (C.X z).env)).any (·.1) = false := by intro _; rfl) :
    DE C U Rv (.Call (.Name x p) (e :: es) [] pos) (nary g fa) U1 (kdf fr) :=
  de_callB hc ok (F.gloP hj).1 (fun z => W.mg z l x hl) hv ha (F.gloP hj).2.2 (F.gloP hj).2.1 he hpl
theorem bt_ {T : String} {r : List V → Hp → VK → Prop} {g : List PyData → Option PyData} {fr : Bool} {p : Pos} (W : CtW C bs M) (F : CtF C N sc fnv vb lb gs) (j l : Nat) (hj : gs[j]? = some x) (hl : bs[l]? = some x) (hv : bootBuiltins x = some (.type T)) (hc : ∀ x, CallR (C.X x) (.type T) r) (ok : OKN C.K r g fr) (ha : DA C U Rv (e :: es) fa U1 kds)
    (he : ∀ z, starEach (e :: es) (C.X z).env = (false, eval e (C.X z).env) :: starEach es (C.X z).env := by intro _; rfl) (hpl : ∀ z, (backTo pos (starEach es (C.X z).env)).any (·.1) = false := by intro _; rfl) :
    DE C U Rv (.Call (.Name x p) (e :: es) [] pos) (nary g fa) U1 (kdf fr) :=
  de_callTy hc ok (F.gloP hj).1 (fun z => W.mg z l x hl) hv ha (F.gloP hj).2.2 (F.gloP hj).2.1 he hpl
theorem isi_ {T : String} {y : Str} {p q : Pos} (W : CtW C bs M) (F : CtF C N sc fnv vb lb gs) (j l j2 l2 : Nat) (hj : gs[j]? = some "isinstance") (hl : bs[l]? = some "isinstance") (hj2 : gs[j2]? = some y) (hl2 : bs[l2]? = some y) (hv : bootBuiltins y = some (.type T)) (he : DE C U Rv e f U1 kd)
    (hs : ∀ z, starEach [e, .Name y q] (C.X z).env = (false, eval e (C.X z).env) :: starEach [.Name y q] (C.X z).env := by intro _; rfl) (hs2 : ∀ z, starEach [.Name y q] (C.X z).env = (false, eval (.Name y q) (C.X z).env) :: starEach [] (C.X z).env := by intro _; rfl) (hpl : ∀ z, (backTo pos (starEach [.Name y q] (C.X z).env)).any (·.1) = false := by intro _; rfl) :
    DE C U Rv (.Call (.Name "isinstance" p) [e, .Name y q] [] pos) (un1 (isF T) f) U1 .cl :=
  de_isi (F.gloP hj).1 (fun z => W.mg z l _ hl) (F.gloP hj2).1 (fun z => W.mg z l2 _ hl2) hv (F.gloP hj2).2.2 (F.gloP hj2).2.1 he hs hs2 hpl
end
theorem CtF.bok {C : Ct} {N : List Str} {sc scope : Scope} {fnv : Str → Bool} {vb lb : List Bool} {gs : List Str} {own : List (Str × Nat)} (F : CtF C N sc fnv vb lb gs) (h : L2.blkC N sc scope own = true) : ∀ z, BlkOk (C.X z).N (C.X z).env.scope scope own := fun z => by
  rw [F.n z, F.s z]
  exact blkOk_by h
section
variable {C : Ct} {bs : List Str} {M : List Nat} {N : List Str} {sc scope : Scope} {fnv : Str → Bool} {vb lb vb' lb' : List Bool} {gs gs' : List Str} {U Rv Rv2 U1 UL Un Rb is : List Nat} {e elt tg it : Expr} {ifs : List Expr} {body : List Stmt} {fe : Env → Rs PyData} {fi : Env → Rs (List PyData)} {g : PyData → Env → Option Env} {fc : Env → Rs Bool} {fb : Env → Rs Fl} {pos : Pos} {x : Str} {ex : Ex} {kd : Kd}
theorem mv_ {pos : Pos} (W : CtW C bs M) (F : CtF C N sc fnv vb lb gs) (i : Nat) (hi : N[i]? = some x) (hv : vb[i]? = some true) (hU : i ∈ U) (hM : i ∉ M) (hR : i ∉ Rv) (hU1 : ∀ j ∈ U1, j ∈ U ∧ j ≠ i) : DE C U Rv (.Name x pos) (moveE i) U1 .fr :=
  m_ F i hi hv hU (by rw [W.mE]; exact hM) hR hU1
theorem as_ {pos' : Pos} (W : CtW C bs M) (F : CtF C N sc fnv vb lb gs) (i : Nat) (hi : N[i]? = some x) (hv : lb[i]? = some true) (he : DE C U Rv e fe U1 kd) (hM : i ∉ M) (hR : i ∉ Rv) (hb : ∀ j, kd ≠ .br j) (hU : ∀ j ∈ Un, (j = i ∧ kd = .fr) ∨ (j ∈ U1 ∧ j ≠ i))
    (hs : ∀ z, swapsWith e (some (.Name x pos')) pos.line (C.X z).env = pure false := by intro _; rfl) : DS C U Rv (.Assign [.Name x pos'] e pos) (asgS i fe) Un ex :=
  asg_ F i hi hv he (by rw [W.mE]; exact hM) hR hb hU hs
theorem ag_ (W : CtW C bs M) (he : DE C U Rv e fe U1 .cl) (hg : DG C is tg g) (hM : ∀ i ∈ is, i ∉ M ∧ i ∉ Rv) (hU : ∀ j ∈ Un, j ∈ U1 ∧ j ∉ is)
    (hs : ∀ z, swapsWithSole [tg] e pos.line (C.X z).env = pure false := by intro _; rfl) (hw' : ∀ z, swappedStores [tg] e (C.X z).env = pure none := by intro _; rfl) (h1' : ∀ z, (assignEach [tg] (C.X z).env).map (·.2) = [assign tg (C.X z).env] := by intro _; rfl) : DS C U Rv (.Assign [tg] e pos) (asgG g fe) Un ex :=
  ds_asgG he hg (by rw [W.mE]; exact hM) hU hs hw' h1'
theorem fo_ (W : CtW C bs M) (P : CtP C) (hi : DI C U Rv tg it fi U1 Rb) (hg : DG C is tg g) (hb : DSs C UL Rv2 body fb UL { ex with b := UL, c := UL }) (hL : ∀ i ∈ UL, i ∈ U1 ∧ i ∉ is) (hR : ∀ i ∈ Rv, i ∈ Rv2) (hRb : ∀ i ∈ Rb, i ∈ Rv2) (hM : ∀ i ∈ is, i ∉ M ∧ i ∉ Rv2)
    (hs : ∀ z y, foldedSetIterable it (C.X z).env y = pure y := by intro _ _; rfl) : DS C U Rv (.For tg it body [] pos) (forS fi g fb) UL ex :=
  ds_for P.po W.cm hi hg hb hL hR hRb (by rw [W.mE]; exact hM) hs
theorem fd_ {i : Nat} {ent : PyData → Option (List (PyData × PyData))} {pr : PyData × PyData → PyData} (W : CtW C bs M) (P : CtP C) (hi : DIp C (Lkd i) U Rv tg it (walkD ent pr i) U1 Rb) (hn : i ∉ U) (hent : ∀ d kvs, ent d = some kvs → entsD d = some kvs) (hg : DG C is tg g) (hb : DSs C UL Rv2 body fb UL { ex with b := UL, c := UL }) (hL : ∀ i ∈ UL, i ∈ U1 ∧ i ∉ is) (hR : ∀ i ∈ Rv, i ∈ Rv2) (hRb : ∀ i ∈ Rb, i ∈ Rv2) (hM : ∀ i ∈ is, i ∉ M ∧ i ∉ Rv2)
    (hs : ∀ z y, foldedSetIterable it (C.X z).env y = pure y := by intro _ _; rfl) : DS C U Rv (.For tg it body [] pos) (forS (walkD ent pr i) g fb) UL ex :=
  ds_lock (ds_forP P.po W.cm hi hg hb hL hR hRb (by rw [W.mE]; exact hM) hs) hn (for_bad hent)
/-- a list comprehension; what stands in its block is shown with the block's own look -/
theorem lc_ {own : List (Str × Nat)} (W : CtW C bs M) (F : CtF C N sc fnv vb lb gs) (hi : DI C U Rv tg it fi U1 Rb) (ok : L2.blkC N sc scope own = true) (chk : chkN N (relS scope sc) (fun x => scope.names.lookup x == some .cell) vb' lb' gs' = true)
    (hg : CtF (blkC C scope) N (relS scope sc) (fun x => scope.names.lookup x == some .cell) vb' lb' gs' → DG (blkC C scope) is tg g) (ht : CtF (blkC C scope) N (relS scope sc) (fun x => scope.names.lookup x == some .cell) vb' lb' gs' → DTs (blkC C scope) UL Rv2 ifs fc)
    (he : CtF (blkC C scope) N (relS scope sc) (fun x => scope.names.lookup x == some .cell) vb' lb' gs' → DE (blkC C scope) UL Rv2 elt fe UL .cl)
    (hL : ∀ i ∈ UL, i ∈ U1 ∧ i ∉ is ∧ i ∉ own.map (·.2)) (hR : ∀ i ∈ Rv, i ∈ Rv2) (hRb : ∀ i ∈ Rb, i ∈ Rv2) (hM : ∀ i ∈ is, i ∉ M ∧ i ∉ Rv2) (his : ∀ i ∈ is, i ∈ own.map (·.2)) (hs : ∀ z y, foldedSetIterable it (C.X z).env y = pure y := by intro _ _; rfl) :
    DE C U Rv (.ListComp elt [⟨tg, it, ifs, 0⟩] scope pos) (compE (own.map (·.2)) fi g fc fe) UL .fr :=
  de_lc W.cm F.nd hi (F.bok ok) (hg (F.blk chk)) (ht (F.blk chk)) (he (F.blk chk)) hL hR hRb (by rw [W.mE]; exact hM) his hs
theorem ld_ {i : Nat} {ent : PyData → Option (List (PyData × PyData))} {pr : PyData × PyData → PyData} {own : List (Str × Nat)} (W : CtW C bs M) (F : CtF C N sc fnv vb lb gs) (hi : DIp C (Lkd i) U Rv tg it (walkD ent pr i) U1 Rb) (hn : i ∉ U) (hent : ∀ d kvs, ent d = some kvs → entsD d = some kvs) (ok : L2.blkC N sc scope own = true) (chk : chkN N (relS scope sc) (fun x => scope.names.lookup x == some .cell) vb' lb' gs' = true)
    (hg : CtF (blkC C scope) N (relS scope sc) (fun x => scope.names.lookup x == some .cell) vb' lb' gs' → DG (blkC C scope) is tg g) (ht : CtF (blkC C scope) N (relS scope sc) (fun x => scope.names.lookup x == some .cell) vb' lb' gs' → DTs (blkC C scope) UL Rv2 ifs fc)
    (he : CtF (blkC C scope) N (relS scope sc) (fun x => scope.names.lookup x == some .cell) vb' lb' gs' → DE (blkC C scope) UL Rv2 elt fe UL .cl)
    (hL : ∀ i ∈ UL, i ∈ U1 ∧ i ∉ is ∧ i ∉ own.map (·.2)) (hR : ∀ i ∈ Rv, i ∈ Rv2) (hRb : ∀ i ∈ Rb, i ∈ Rv2) (hM : ∀ i ∈ is, i ∉ M ∧ i ∉ Rv2) (his : ∀ i ∈ is, i ∈ own.map (·.2)) (hs : ∀ z y, foldedSetIterable it (C.X z).env y = pure y := by intro _ _; rfl) :
    DE C U Rv (.ListComp elt [⟨tg, it, ifs, 0⟩] scope pos) (compE (own.map (·.2)) (walkD ent pr i) g fc fe) UL .fr :=
  de_lock (de_lcP W.cm F.nd hi (F.bok ok) (hg (F.blk chk)) (ht (F.blk chk)) (he (F.blk chk)) hL hR hRb (by rw [W.mE]; exact hM) his hs) hn (comp_bad hent)
end
/-- x is one of the module's constants, a tuple of numbers -/
def ConD (C : Ct) (x : Str) (ns : List Int) : Prop := ∃ a, (∀ z, (C.X z).mg x = some (.ref a)) ∧ ∀ H, SqT C.K H a (ns.map V.int)
theorem ConD.blk {C : Ct} {scope : Scope} {x : Str} {ns : List Int} (h : ConD C x ns) : ConD (blkC C scope) x ns := let ⟨a, h1, h2⟩ := h; ⟨a, fun z => h1 z.1, h2⟩
theorem co_ {C : Ct} {N : List Str} {sc : Scope} {fnv : Str → Bool} {vb lb : List Bool} {gs : List Str} {U Rv : List Nat} {x : Str} {ns : List Int} {p : Pos} (F : CtF C N sc fnv vb lb gs) (j : Nat) (hj : gs[j]? = some x) (h : ConD C x ns) : DE C U Rv (.Name x p) (cstE (.dict [(.none, .tuple (ns.map PyData.int))])) U .cl := by
  obtain ⟨a, h1, h2⟩ := h
  exact de_con (F.gloP hj).1 h1 h2 (F.gloP hj).2.1
theorem boot_abs : bootBuiltins "abs" = some (.builtin "abs") := by decide +kernel
theorem boot_any' : bootBuiltins "any" = some (.builtin "any") := by decide +kernel
theorem boot_all' : bootBuiltins "all" = some (.builtin "all") := by decide +kernel
end DV

set_option Elab.async false
set_option linter.all false
set_option maxRecDepth 100000
set_option maxHeartbeats 400000
namespace DV
open PySem L2 PySem.Spec
open PyProof.Rows hiding St

section
variable {C : Ct} {bs : List Str} {M : List Nat} {N : List Str} {sc scope : Scope} {fnv : Str → Bool} {vb lb vb' lb' : List Bool} {gs gs' : List Str} {U Rv Rv2 U1 UL Un Rb is : List Nat} {e elt tg it : Expr} {ifs : List Expr} {fe : Env → Rs PyData} {fi : Env → Rs (List PyData)} {g : PyData → Env → Option Env} {fc : Env → Rs Bool} {pos spos : Pos} {x y : Str} {ex : Ex} {kd : Kd} {i : Nat}
/-! ### name = [..], name = {..} on one line -/
theorem swap_cell {y : Str} {py : Pos} {l : Nat} {env : PySem.Env} (h : env.scope.names.lookup y = some .cell) : swapsWith e (some (.Name y py)) l env = pure false := by
  unfold swapsWith
  have hk : env.kindOf y = some .cell := h
  split
  · show (pure (env.blockKind == ScopeKind.function && env.kindOf y == some NameKind.local && py.line == e.pos.line && _) : Sem Bool) = pure false
    rw [hk, show (some NameKind.cell == some NameKind.local) = false from rfl, Bool.and_false, Bool.false_and, Bool.false_and]
  · rfl
/-- the name is a cell: another block sees it -/
theorem asC_ {py : Pos} (W : CtW C bs M) (F : CtF C N sc fnv vb lb gs) (i : Nat) (hi : N[i]? = some y) (hv : lb[i]? = some true) (hcell : sc.names.lookup y = some .cell) (he : DE C U Rv e fe U1 kd) (hM : i ∉ M) (hR : i ∉ Rv) (hb : ∀ j, kd ≠ .br j) (hU : ∀ j ∈ Un, (j = i ∧ kd = .fr) ∨ (j ∈ U1 ∧ j ≠ i)) : DS C U Rv (.Assign [.Name y py] e pos) (asgS i fe) Un ex :=
  as_ W F i hi hv he hM hR hb hU fun z => swap_cell (by rw [F.s z]; exact hcell)
/-- an assignment's reading, from the list's -/
theorem asg_of {pe : Stmt} {t : TE} (hM : i ∉ C.M) (hR : i ∉ Rv) (hb : ∀ j, kd ≠ .br j) (hU : ∀ j ∈ Un, (j = i ∧ kd = .fr) ∨ (j ∈ U1 ∧ j ≠ i)) (h1 : ∀ i ∈ U1, i ∈ U) (hp : ∀ z, PS (C.X z) pe (tAsg t (gName i)))
    (hw : ∀ (σ : L2.St) (H : Hp) (env : Env) (Fs : Nat → List Addr) (Q : VK), EnvR C.K C.H0 C.M U σ H env Fs → (fe env).wp (fun d env' => ∀ v H' Fs' F, EPost C U Rv σ H Fs U1 kd d env' v H' Fs' F → Q v H') (EC C) → t σ H Q) : DS C U Rv pe (asgS i fe) Un ex := by
  refine ⟨tAsg t (gName i), hp, fun σ H env Fs D R h => hw σ H env Fs _ R ?_⟩
  unfold asgS at h
  rw [wp_bind] at h
  refine wp_mono h fun d e1 k v H' Fs' F p => ?_
  rw [wp_bind] at k
  obtain ⟨e2, h2, k⟩ := wp_of k
  obtain ⟨hi', rfl⟩ := putS_eq h2
  exact k _ _ _ (p.stored h1 hM hR hi' hb hU)
theorem asg_lc {Pre : L2.St → Hp → Prop} {U' : List Nat} {j : Nat} {py : Pos} (h : DEs C (fun _ _ => True) U Rv e fe U' .fr) (hy : ∀ z, (C.X z).N[j]? = some y) (hyl : ∀ z, (C.X z).env.scope.names.lookup y = some .local) (hsw : ∀ z, swapsWith e (some (.Name y py)) spos.line (C.X z).env = pure true)
    (hM : j ∉ C.M) (hR : j ∉ Rv) (hU : ∀ l ∈ Un, (l = j ∧ Kd.fr = .fr) ∨ (l ∈ U' ∧ l ≠ j)) : DS C U Rv (.Assign [.Name y py] e spos) (asgS j fe) Un ex := by
  obtain ⟨h1, t, _, hp, hs⟩ := h
  exact asg_of (kd := .fr) hM hR (fun j z => nomatch z) hU h1 (fun z => hp z j y py spos (hy z) (hyl z) (hsw z)) fun σ H env Fs Q R hw => hs σ H env Fs Q R trivial hw
/-- x = [..], x a local, on one line -/
theorem asL_ {own : List (Str × Nat)} {py : Pos} (W : CtW C bs M) (F : CtF C N sc fnv vb lb gs) (j : Nat) (hy : N[j]? = some y) (hyl : sc.names.lookup y = some .local) (hkind : sc.kind = .function) (hnot : (scope.names.any fun (n, k) => n == y && (k == .local || k == .cell)) = false) (hline : (py.line == pos.line) = true)
    (hi : DI C U Rv tg it fi U1 Rb) (ok : L2.blkC N sc scope own = true) (chk : chkN N (relS scope sc) (fun x => scope.names.lookup x == some .cell) vb' lb' gs' = true)
    (hg : CtF (blkC C scope) N (relS scope sc) (fun x => scope.names.lookup x == some .cell) vb' lb' gs' → DG (blkC C scope) is tg g) (ht : CtF (blkC C scope) N (relS scope sc) (fun x => scope.names.lookup x == some .cell) vb' lb' gs' → DTs (blkC C scope) UL Rv2 ifs fc)
    (he : CtF (blkC C scope) N (relS scope sc) (fun x => scope.names.lookup x == some .cell) vb' lb' gs' → DE (blkC C scope) UL Rv2 elt fe UL .cl)
    (hL : ∀ i ∈ UL, i ∈ U1 ∧ i ∉ is ∧ i ∉ own.map (·.2)) (hR : ∀ i ∈ Rv, i ∈ Rv2) (hRb : ∀ i ∈ Rb, i ∈ Rv2) (hM : ∀ i ∈ is, i ∉ M ∧ i ∉ Rv2) (his : ∀ i ∈ is, i ∈ own.map (·.2)) (hjM : j ∉ M) (hjR : j ∉ Rv) (hU : ∀ l ∈ Un, (l = j ∧ Kd.fr = .fr) ∨ (l ∈ UL ∧ l ≠ j))
    (hs : ∀ z y, foldedSetIterable it (C.X z).env y = pure y := by intro _ _; rfl) :
    DS C U Rv (.Assign [.Name y py] (.ListComp elt [⟨tg, it, ifs, 0⟩] scope pos) spos) (asgS j (compE (own.map (·.2)) fi g fc fe)) Un ex :=
  asg_lc (Pre := fun _ _ => True) (de_lcS W.cm F.nd hi (F.bok ok) (hg (F.blk chk)) (ht (F.blk chk)) (he (F.blk chk)) hL hR hRb (by rw [W.mE]; exact hM) his hs) (F.at hy) (fun z => by rw [F.s z]; exact hyl) (fun z => sw_true (by rw [F.s z]; exact hkind) (by rw [F.s z]; exact hyl) hline hnot) (by rw [W.mE]; exact hjM) hjR hU
end
end DV

set_option Elab.async false
set_option linter.all false
set_option maxRecDepth 100000
set_option maxHeartbeats 400000
namespace DV
open PySem L2 PySem.Spec
open PyProof.Rows hiding St

/-! ### a, b = x, y stored from the right, names of locals -/
theorem EnvR.put {K : PySem.W.Frag} {H0 : Hp} {M U Un : List Nat} {σ : L2.St} {H : Hp} {env : Env} {Fs : Nat → List Addr} {v : V} {d : PyData} {F : List Addr} {i : Nat} {kd : Kd} (R : EnvR K H0 M U σ H env Fs) (r : Rep K H v d F) (c : KdOk H0 U σ H Fs v d F kd) (hb : ∀ j, kd ≠ .br j) (hi : i < env.length) (hU : ∀ j ∈ Un, (j = i ∧ kd = .fr) ∨ (j ∈ U ∧ j ≠ i)) :
    EnvR K H0 M Un (σ.set i (some v)) H (env.set i (some d)) (setF Fs i F) := by
  cases kd with
  | cl => exact R.set r c hi fun j hj => (hU j hj).resolve_left fun z => nomatch z.2
  | fr => exact R.setNew r c hi fun j hj => (hU j hj).imp (fun z => z.1) id
  | br j => exact absurd rfl (hb j)
section
variable {C : Ct} {U Rv U1 U2 U3 U4 Un : List Nat} {σ : L2.St} {H H1 H2 : Hp} {Fs Fs1 Fs2 : Nat → List Addr} {env e1 e2 : Env} {d d2 : PyData} {v w : V} {F F1 F2 : List Addr} {k1 k2 kd : Kd}
/-- a value that was made ahead of another one -/
theorem KdOk.after (p : EPost C U Rv σ H Fs U1 k1 d e1 v H1 Fs1 F1) (q : TPost C U1 Rv σ H1 Fs1 U2 e2 H2 Fs2) (hU : ∀ i ∈ U2, i ∈ U1) (hb : ∀ j, k1 ≠ .br j) : KdOk C.H0 U2 σ H2 Fs2 v d F1 k1 ∧ Rep C.K H2 v d F1 := by
  have cl := p.knd.clean p.env hb
  refine ⟨?_, p.rep.keep q.keep (fun b h => p.env.wr h) fun b m => cl.nowr b m⟩
  cases k1 with
  | cl => exact cl.weak hU
  | br j => exact absurd rfl (hb j)
  | fr =>
    obtain ⟨a, G, q1, q2, q3, q4, q5, q6, q7, q8⟩ := p.knd
    subst q2
    have na := cl.nowr (Rv := Rv) a List.mem_cons_self
    refine ⟨a, G, q1, rfl, q3, q4, fun j m => ?_, ?_, q7, q8.weak hU⟩
    · rcases q.grow j a m with ⟨l, hl⟩ | z
      · exact q5 l hl
      · exact q6.ne z
    · rcases q6 with ⟨x, e⟩ | ⟨x, e⟩ | ⟨x, e⟩
      · exact .inl ⟨x, q.keep _ _ e na⟩
      · exact .inr (.inl ⟨x, q.keep _ _ e na⟩)
      · exact .inr (.inr ⟨x, q.keep _ _ e na⟩)
/-- two values side by side: the second one behind the first one's store -/
theorem KdOk.beside {i : Nat} (R2 : EnvR C.K C.H0 C.M U2 σ H2 e2 Fs2) (c1 : KdOk C.H0 U2 σ H2 Fs2 v d F1 k1) (c2 : KdOk C.H0 U2 σ H2 Fs2 w d2 F2 k2) (hb1 : ∀ j, k1 ≠ .br j) (hb2 : ∀ j, k2 ≠ .br j) (hi : i < σ.length) (hU : ∀ j ∈ U3, (j = i ∧ k1 = .fr) ∨ (j ∈ U2 ∧ j ≠ i))
    (x1 : k1 = .fr → ∀ a, v = .ref a → a ∉ F2) (x2 : k2 = .fr → ∀ b, w = .ref b → b ∉ F1) : KdOk C.H0 U3 (σ.set i (some v)) H2 (setF Fs2 i F1) w d2 F2 k2 := by
  have cl2 := c2.clean R2 hb2
  have cl : ∀ G : List Addr, (∀ b ∈ G, b ∈ F2) → Clean U3 (σ.set i (some v)) G := fun G sub l hl a ea m => by
    rcases hU l hl with ⟨z, hk⟩ | ⟨h2, z⟩
    · subst z
      rw [List.getElem?_set_self hi] at ea
      cases ea
      exact x1 hk a rfl (sub a m)
    · rw [List.getElem?_set_ne (Ne.symm z)] at ea
      exact cl2 l h2 a ea (sub a m)
  cases k2 with
  | cl => exact cl F2 fun _ m => m
  | br j => exact absurd rfl (hb2 j)
  | fr =>
    obtain ⟨b, G, q1, q2, q3, q4, q5, q6, q7, q8⟩ := c2
    refine ⟨b, G, q1, q2, q3, q4, fun l m => ?_, q6, q7, cl G fun c m => by rw [q2]; exact List.mem_cons_of_mem _ m⟩
    by_cases z : l = i
    · subst z
      rw [setF_same] at m
      exact x2 rfl b q1 m
    · rw [setF_ne z] at m
      exact q5 l m
end
def par2S (i j : Nat) (f1 f2 : Env → Rs PyData) : Env → Rs Fl := fun env => (f1 env).bind fun x e1 => (f2 e1).bind fun y e2 => (Rs.of (putS e2 i x) e2).bind fun e3 _ => (Rs.of (putS e3 j y) e3).bind fun e4 _ => .ok .nx e4
section
variable {C : Ct} {bs : List Str} {M : List Nat} {N : List Str} {sc : Scope} {fnv : Str → Bool} {vb lb : List Bool} {gs : List Str} {U Rv U1 U2 Un : List Nat} {a b : Expr} {f1 f2 : Env → Rs PyData} {k1 k2 : Kd} {x y : Str} {ex : Ex} {px py pt pos pt2 : Pos} {kt kt2 : Nat}
theorem pr_ (W : CtW C bs M) (F : CtF C N sc fnv vb lb gs) (i j : Nat) (hi : N[i]? = some x) (hj : N[j]? = some y) (hij : i ≠ j) (hx : sc.names.lookup x = some .local) (hy : sc.names.lookup y = some .local) (ha : DE C U Rv a f1 U1 k1) (hb : DE C U1 Rv b f2 U2 k2) (n1 : ∀ j, k1 ≠ .br j) (n2 : ∀ j, k2 ≠ .br j)
    (hM : i ∉ M ∧ j ∉ M) (hR : i ∉ Rv ∧ j ∉ Rv) (hU : ∀ l ∈ Un, (l = i ∧ k1 = .fr) ∨ (l = j ∧ k2 = .fr) ∨ (l ∈ U2 ∧ l ≠ i ∧ l ≠ j))
    (hsw : ∀ z, swappedStores [.Tuple [.Name x px, .Name y py] kt pt] (.Tuple [a, b] kt2 pt2) (C.X z).env = pure (some [x, y]))
    (hs : ∀ z, swapsWithSole [.Tuple [.Name x px, .Name y py] kt pt] (.Tuple [a, b] kt2 pt2) pos.line (C.X z).env = pure false := by intro _; rfl) (hst : ∀ z, starEach [a, b] (C.X z).env = (false, eval a (C.X z).env) :: starEach [b] (C.X z).env := by intro _; rfl) (hst2 : ∀ z, starEach [b] (C.X z).env = (false, eval b (C.X z).env) :: starEach [] (C.X z).env := by intro _; rfl) :
    DS C U Rv (.Assign [.Tuple [.Name x px, .Name y py] kt pt] (.Tuple [a, b] kt2 pt2) pos) (par2S i j f1 f2) Un ex := by
  obtain ⟨h1, t, tp, ts⟩ := ha
  obtain ⟨g1, u, up, us⟩ := hb
  refine ⟨tPar i j (tCons t (tCons u tNil)), fun z => ps_par (W.cm z) (F.nd z) (F.at hi z) (F.at hj z) hij (by rw [F.s z]; exact hx) (by rw [F.s z]; exact hy) (pa_cons (tp z) (pa_cons (up z) pa_nil (hst2 z)) (hst z)) (hsw z) (hs z), fun σ H env Fs D R h => ts σ H env Fs _ R ?_⟩
  unfold par2S at h
  rw [wp_bind] at h
  refine wp_mono h fun d e1 h v H1 Fs1 F1 p => us σ H1 e1 Fs1 _ p.env ?_
  rw [wp_bind] at h
  refine wp_mono h fun d2 e2 h w H2 Fs2 F2 q => ⟨v, w, rfl, ?_⟩
  rw [wp_bind] at h
  obtain ⟨e3, p3, h⟩ := wp_of h
  rw [wp_bind] at h
  obtain ⟨e4, p4, k⟩ := wp_of h
  obtain ⟨hi', rfl⟩ := putS_eq p3
  obtain ⟨hj', rfl⟩ := putS_eq p4
  obtain ⟨c1, r1⟩ := KdOk.after p q.t g1 n1
  have hlen := q.env.len
  have cl1 := p.knd.clean p.env n1
  have x1 : k1 = .fr → ∀ a, v = .ref a → a ∉ F2 := fun e a ea m => by
    subst e
    obtain ⟨a', G, q1, q2, q3, q4, q5, q6, _⟩ := p.knd
    rw [ea] at q1
    cases q1
    rcases q.fgrow a m with ⟨l, hl⟩ | z
    · exact q5 l hl
    · exact q6.ne z
  have x2 : k2 = .fr → ∀ b, w = .ref b → b ∉ F1 := fun e b eb m => by
    rcases q.frw e b eb with z | ⟨l, z1, _, z3⟩
    · exact p.rep.trk b m z
    · exact cl1 l z1 b z3 m
  have hU3 : ∀ l ∈ Un.filter (fun l => l != j) ++ U2.filter (fun l => l != i), (l = i ∧ k1 = .fr) ∨ (l ∈ U2 ∧ l ≠ i) := fun l m => by
    rcases List.mem_append.mp m with m | m
    · have := List.mem_filter.mp m
      rcases hU l this.1 with z | z | z
      · exact .inl z
      · exact absurd z.1 (by simpa using this.2)
      · exact .inr ⟨z.1, z.2.1⟩
    · have := List.mem_filter.mp m
      exact .inr ⟨this.1, by simpa using this.2⟩
  have R3 := q.env.put (Un := Un.filter (fun l => l != j) ++ U2.filter (fun l => l != i)) r1 c1 n1 hi' hU3
  have c2 := KdOk.beside q.env c1 q.knd n1 n2 (by rw [hlen]; exact hi') hU3 x1 x2
  have R4 := R3.put (Un := Un) q.rep c2 n2 hj' fun l hl => by
    rcases hU l hl with z | z | z
    · exact .inr ⟨List.mem_append_left _ (List.mem_filter.mpr ⟨hl, by simpa using fun e => hij (z.1.symm.trans e)⟩), fun e => hij (z.1.symm.trans e)⟩
    · exact .inl z
    · exact .inr ⟨List.mem_append_right _ (List.mem_filter.mpr ⟨z.1, by simpa using z.2.1⟩), z.2.2⟩
  have T := p.t.trans q.t h1 fun _ z => z
  have gr2 : ∀ b ∈ F2, (∃ k, b ∈ Fs k) ∨ H b = none := fun b m => by
    rcases q.fgrow b m with ⟨l, hl⟩ | z
    · exact p.grow l b hl
    · exact .inr (p.dom b z)
  refine k _ H2 _ ⟨R4, T.keep, T.dom, fun l b m => ?_, fun l hl hr b eb => ?_, fun l hl => ?_, fun l hl hr => ?_⟩
  · by_cases z : l = j
    · subst z
      rw [setF_same] at m
      exact gr2 b m
    · rw [setF_ne z] at m
      by_cases z : l = i
      · subst z
        rw [setF_same] at m
        exact p.fgrow b m
      · rw [setF_ne z] at m
        exact T.grow l b m
  · rcases hU l hl with z | z | z
    · obtain ⟨rfl, e⟩ := z
      rw [List.getElem?_set_ne hij.symm, List.getElem?_set_self (by rw [hlen]; exact hi')] at eb
      cases eb
      exact (p.frw e b rfl).symm
    · obtain ⟨rfl, e⟩ := z
      rw [List.getElem?_set_self (by rw [List.length_set, hlen]; rw [List.length_set] at hj'; exact hj')] at eb
      cases eb
      rcases q.frw e b rfl with z | ⟨m, z1, z2, z3⟩
      · exact .inr (p.dom b z)
      · exact .inl ⟨m, h1 m z1, z2, z3⟩
    · rw [List.getElem?_set_ne (Ne.symm z.2.2), List.getElem?_set_ne (Ne.symm z.2.1)] at eb
      exact .inl ⟨l, h1 l (g1 l z.1), hr, eb⟩
  · have ni : i ≠ l := fun e => by
      subst e
      exact hl.elim (by rw [W.mE]; exact hM.1) hR.1
    have nj : j ≠ l := fun e => by
      subst e
      exact hl.elim (by rw [W.mE]; exact hM.2) hR.2
    rw [List.getElem?_set_ne nj, List.getElem?_set_ne ni]
  · rcases hU l hl with z | z | z
    · rw [z.1] at hr
      exact absurd hr hR.1
    · rw [z.1] at hr
      exact absurd hr hR.2
    · exact h1 l (g1 l z.1)
/-- three at once, clean ones -/
def par3S (i j l : Nat) (fa : Env → Rs (List PyData)) : Env → Rs Fl := fun env => (fa env).bind fun ds e => match ds with
  | [x, y, z] => (Rs.of (putS e i x) e).bind fun e3 _ => (Rs.of (putS e3 j y) e3).bind fun e4 _ => (Rs.of (putS e4 l z) e4).bind fun e5 _ => .ok .nx e5
  | _ => .bad
theorem pr3_ {c : Expr} {fa : Env → Rs (List PyData)} {kds : List Kd} {z0 : Str} {pz : Pos} (W : CtW C bs M) (F : CtF C N sc fnv vb lb gs) (i j l : Nat) (hi : N[i]? = some x) (hj : N[j]? = some y) (hl : N[l]? = some z0) (hij : i ≠ j) (hil : i ≠ l) (hjl : j ≠ l) (hx : sc.names.lookup x = some .local) (hy : sc.names.lookup y = some .local) (hz : sc.names.lookup z0 = some .local)
    (ha : DA C U Rv [a, b, c] fa U1 kds) (hk : allCl kds = true) (hM : i ∉ M ∧ j ∉ M ∧ l ∉ M) (hR : i ∉ Rv ∧ j ∉ Rv ∧ l ∉ Rv) (hU : ∀ m ∈ Un, m ∈ U1 ∧ m ≠ i ∧ m ≠ j ∧ m ≠ l)
    (hsw : ∀ z, swappedStores [.Tuple [.Name x px, .Name y py, .Name z0 pz] kt pt] (.Tuple [a, b, c] kt2 pt2) (C.X z).env = pure (some [x, y, z0]))
    (hs : ∀ z, swapsWithSole [.Tuple [.Name x px, .Name y py, .Name z0 pz] kt pt] (.Tuple [a, b, c] kt2 pt2) pos.line (C.X z).env = pure false := by intro _; rfl) :
    DS C U Rv (.Assign [.Tuple [.Name x px, .Name y py, .Name z0 pz] kt pt] (.Tuple [a, b, c] kt2 pt2) pos) (par3S i j l fa) Un ex := by
  obtain ⟨h1, t, tp, ts⟩ := ha
  refine ⟨tPar3 i j l t, fun z => ps_par3 (W.cm z) (F.nd z) (F.at hi z) (F.at hj z) (F.at hl z) hij hil hjl (by rw [F.s z]; exact hx) (by rw [F.s z]; exact hy) (by rw [F.s z]; exact hz) (tp z) (hsw z) (hs z), fun σ H env Fs D R h => ts σ H env Fs _ R ?_⟩
  unfold par3S at h
  rw [wp_bind] at h
  refine wp_mono h fun ds e h vs H1 Fs1 FF p as => ?_
  have cl := as.clean hk
  have gr := as.repL.2
  cases as with
  | nil => exact (show False from h).elim
  | @cons v1 d1 F1 _ _ _ FF _ a1 as =>
    cases as with
    | nil => exact (show False from h).elim
    | @cons v2 d2 F2 _ _ _ FF _ a2 as =>
      cases as with
      | nil => exact (show False from h).elim
      | @cons v3 d3 F3 _ _ _ FF _ a3 as =>
        cases as with
        | cons _ _ => exact (show False from h).elim
        | nil =>
          refine ⟨v1, v2, v3, rfl, ?_⟩
          have h : ((Rs.of (putS e i d1) e).bind fun e3 _ => (Rs.of (putS e3 j d2) e3).bind fun e4 _ => (Rs.of (putS e4 l d3) e4).bind fun e5 _ => (Rs.ok Fl.nx e5 : Rs Fl)).wp (EndOk C U Rv σ H Fs Un ex D) (EC C) := h
          rw [wp_bind] at h
          obtain ⟨e3, p3, h⟩ := wp_of h
          rw [wp_bind] at h
          obtain ⟨e4, p4, h⟩ := wp_of h
          rw [wp_bind] at h
          obtain ⟨e5, p5, k⟩ := wp_of h
          obtain ⟨hi', rfl⟩ := putS_eq p3
          obtain ⟨hj', rfl⟩ := putS_eq p4
          obtain ⟨hl', rfl⟩ := putS_eq p5
          have in1 : ∀ b ∈ F1, b ∈ flatF [F1, F2, F3] := fun b m => List.mem_append_left _ m
          have in2 : ∀ b ∈ F2, b ∈ flatF [F1, F2, F3] := fun b m => List.mem_append_right _ (List.mem_append_left _ m)
          have in3 : ∀ b ∈ F3, b ∈ flatF [F1, F2, F3] := fun b m => List.mem_append_right _ (List.mem_append_right _ (List.mem_append_left _ m))
          have R3 := (p.env.weak (U' := Un) fun m hm => (hU m hm).1).set a1.rep ((cl.sub in1).weak fun m hm => (hU m hm).1) hi' (Un := Un) fun m hm => ⟨hm, (hU m hm).2.1⟩
          have c3 : ∀ {G : List Addr}, (∀ b ∈ G, b ∈ flatF [F1, F2, F3]) → Clean Un (σ.set i (some v1)) G := fun {G} sub m hm b eb mm => by
            rw [List.getElem?_set_ne (Ne.symm (hU m hm).2.1)] at eb
            exact cl m (hU m hm).1 b eb (sub b mm)
          have R4 := R3.set a2.rep (c3 in2) hj' (Un := Un) fun m hm => ⟨hm, (hU m hm).2.2.1⟩
          have c4 : Clean Un ((σ.set i (some v1)).set j (some v2)) F3 := fun m hm b eb mm => by
            rw [List.getElem?_set_ne (Ne.symm (hU m hm).2.2.1)] at eb
            exact c3 in3 m hm b eb mm
          have R5 := R4.set a3.rep c4 hl' (Un := Un) fun m hm => ⟨hm, (hU m hm).2.2.2⟩
          refine k _ H1 _ ⟨R5, p.keep, p.dom, fun m b mm => ?_, fun m hm hr b eb => ?_, fun m hm => ?_, fun m hm hr => h1 m (hU m hm).1⟩
          · unfold setF at mm
            split at mm
            · exact gr b (in3 b mm)
            · split at mm
              · exact gr b (in2 b mm)
              · split at mm
                · exact gr b (in1 b mm)
                · exact p.grow m b mm
          · rw [List.getElem?_set_ne (Ne.symm (hU m hm).2.2.2), List.getElem?_set_ne (Ne.symm (hU m hm).2.2.1), List.getElem?_set_ne (Ne.symm (hU m hm).2.1)] at eb
            exact .inl ⟨m, h1 m (hU m hm).1, hr, eb⟩
          · have n1 : i ≠ m := fun e => by
              subst e
              exact hm.elim (by rw [W.mE]; exact hM.1) hR.1
            have n2 : j ≠ m := fun e => by
              subst e
              exact hm.elim (by rw [W.mE]; exact hM.2.1) hR.2.1
            have n3 : l ≠ m := fun e => by
              subst e
              exact hm.elim (by rw [W.mE]; exact hM.2.2) hR.2.2
            rw [List.getElem?_set_ne n3, List.getElem?_set_ne n2, List.getElem?_set_ne n1]
end
end DV

set_option Elab.async false
set_option linter.all false
set_option maxRecDepth 100000
set_option maxHeartbeats 400000
namespace DV
open PySem L2 PySem.Spec
open PyProof.Rows hiding St

/-! ### the side conditions of a, b = x, y as one look -/
def noStar (vs : List Expr) : Bool := !(vs.any fun | .Starred .. => true | _ => false)
def swOk (vs : List Expr) : Bool := noStar vs && !(vs.all (foldedForSure 8)) && !(vs.all (constantsAlone 8))
theorem sw2 {env : PySem.Env} {x y : Str} {px py pt pt2 : Pos} {kt kt2} {a b : Expr} (hk : env.scope.kind = .function) (hx : env.scope.names.lookup x = some .local) (hy : env.scope.names.lookup y = some .local) (c : (swOk [a, b] && px.line == py.line && x != y) = true) :
    swappedStores [.Tuple [.Name x px, .Name y py] kt pt] (.Tuple [a, b] kt2 pt2) env = pure (some [x, y]) := by
  simp only [Bool.and_eq_true, swOk, noStar, Bool.not_eq_true'] at c
  obtain ⟨⟨⟨⟨c1, c2⟩, c3⟩, c4⟩, c5⟩ := c
  have kx : env.kindOf x = some .local := hx
  have ky : env.kindOf y = some .local := hy
  have kb : env.blockKind = .function := by unfold Env.blockKind; rw [hk]; rfl
  have e4 : px.line = py.line := by simpa using c4
  have e5 : x ≠ y := by simpa using c5
  have n1 := ne_true_of_eq_false c1
  have n2 := ne_true_of_eq_false c2
  have n3 := ne_true_of_eq_false c3
  simp only [List.any_cons, List.any_nil, List.all_cons, List.all_nil, Bool.or_eq_true, Bool.and_eq_true, Bool.false_eq_true, or_false, and_true, ne_eq] at n1 n2 n3
  simp [swappedStores, Expr.pos, kb, kx, ky, ← e4, e5, Ne.symm e5, List.eraseDups_cons]
  exact (if_neg n1).trans ((if_neg n2).trans (if_neg n3))
theorem sw3 {env : PySem.Env} {x y w : Str} {px py pw pt pt2 : Pos} {kt kt2} {a b c : Expr} (hk : env.scope.kind = .function) (hx : env.scope.names.lookup x = some .local) (hy : env.scope.names.lookup y = some .local) (hw : env.scope.names.lookup w = some .local) (ch : (swOk [a, b, c] && px.line == py.line && px.line == pw.line && (x != y && x != w && y != w)) = true) :
    swappedStores [.Tuple [.Name x px, .Name y py, .Name w pw] kt pt] (.Tuple [a, b, c] kt2 pt2) env = pure (some [x, y, w]) := by
  simp only [Bool.and_eq_true, swOk, noStar, Bool.not_eq_true'] at ch
  obtain ⟨⟨⟨⟨⟨c1, c2⟩, c3⟩, c4⟩, c4'⟩, ⟨c5, c6⟩, c7⟩ := ch
  have kx : env.kindOf x = some .local := hx
  have ky : env.kindOf y = some .local := hy
  have kw : env.kindOf w = some .local := hw
  have kb : env.blockKind = .function := by unfold Env.blockKind; rw [hk]; rfl
  have e4 : px.line = py.line := by simpa using c4
  have e4' : px.line = pw.line := by simpa using c4'
  have e5 : x ≠ y := by simpa using c5
  have e6 : x ≠ w := by simpa using c6
  have e7 : y ≠ w := by simpa using c7
  have n1 := ne_true_of_eq_false c1
  have n2 := ne_true_of_eq_false c2
  have n3 := ne_true_of_eq_false c3
  simp only [List.any_cons, List.any_nil, List.all_cons, List.all_nil, Bool.or_eq_true, Bool.and_eq_true, Bool.false_eq_true, or_false, and_true, ne_eq] at n1 n2 n3
  simp [swappedStores, Expr.pos, kb, kx, ky, kw, ← e4, ← e4', e5, e6, e7, Ne.symm e5, Ne.symm e6, Ne.symm e7, List.eraseDups_cons]
  exact (if_neg n1).trans ((if_neg n2).trans (if_neg n3))
section
variable {C : Ct} {bs : List Str} {M : List Nat} {N : List Str} {sc : Scope} {fnv : Str → Bool} {vb lb : List Bool} {gs : List Str} {U Rv U1 U2 Un : List Nat} {a b c : Expr} {f1 f2 : Env → Rs PyData} {fa : Env → Rs (List PyData)} {kds : List Kd} {pos px py pz pt pt2 : Pos} {kt kt2 : Nat} {x y z0 : Str} {ex : Ex} {k1 k2 : Kd}
theorem p2_ (W : CtW C bs M) (F : CtF C N sc fnv vb lb gs) (i j : Nat) (hi : N[i]? = some x) (hj : N[j]? = some y) (hij : i ≠ j) (hk : sc.kind = .function) (hx : sc.names.lookup x = some .local) (hy : sc.names.lookup y = some .local) (ch : (swOk [a, b] && px.line == py.line && x != y) = true) (ha : DE C U Rv a f1 U1 k1) (hb : DE C U1 Rv b f2 U2 k2) (n1 : ∀ j, k1 ≠ .br j) (n2 : ∀ j, k2 ≠ .br j)
    (hM : i ∉ M ∧ j ∉ M) (hR : i ∉ Rv ∧ j ∉ Rv) (hU : ∀ l ∈ Un, (l = i ∧ k1 = .fr) ∨ (l = j ∧ k2 = .fr) ∨ (l ∈ U2 ∧ l ≠ i ∧ l ≠ j))
    (hs : ∀ z, swapsWithSole [.Tuple [.Name x px, .Name y py] kt pt] (.Tuple [a, b] kt2 pt2) pos.line (C.X z).env = pure false := by intro _; rfl) (hst : ∀ z, starEach [a, b] (C.X z).env = (false, eval a (C.X z).env) :: starEach [b] (C.X z).env := by intro _; rfl) (hst2 : ∀ z, starEach [b] (C.X z).env = (false, eval b (C.X z).env) :: starEach [] (C.X z).env := by intro _; rfl) :
    DS C U Rv (.Assign [.Tuple [.Name x px, .Name y py] kt pt] (.Tuple [a, b] kt2 pt2) pos) (par2S i j f1 f2) Un ex :=
  pr_ W F i j hi hj hij hx hy ha hb n1 n2 hM hR hU (fun z => sw2 (by rw [F.s z]; exact hk) (by rw [F.s z]; exact hx) (by rw [F.s z]; exact hy) ch) hs hst hst2
theorem p3_ (W : CtW C bs M) (F : CtF C N sc fnv vb lb gs) (i j l : Nat) (hi : N[i]? = some x) (hj : N[j]? = some y) (hl : N[l]? = some z0) (hij : i ≠ j) (hil : i ≠ l) (hjl : j ≠ l) (hk : sc.kind = .function) (hx : sc.names.lookup x = some .local) (hy : sc.names.lookup y = some .local) (hz : sc.names.lookup z0 = some .local) (ch : (swOk [a, b, c] && px.line == py.line && px.line == pz.line && (x != y && x != z0 && y != z0)) = true)
    (ha : DA C U Rv [a, b, c] fa U1 kds) (hkd : allCl kds = true) (hM : i ∉ M ∧ j ∉ M ∧ l ∉ M) (hR : i ∉ Rv ∧ j ∉ Rv ∧ l ∉ Rv) (hU : ∀ m ∈ Un, m ∈ U1 ∧ m ≠ i ∧ m ≠ j ∧ m ≠ l)
    (hs : ∀ z, swapsWithSole [.Tuple [.Name x px, .Name y py, .Name z0 pz] kt pt] (.Tuple [a, b, c] kt2 pt2) pos.line (C.X z).env = pure false := by intro _; rfl) :
    DS C U Rv (.Assign [.Tuple [.Name x px, .Name y py, .Name z0 pz] kt pt] (.Tuple [a, b, c] kt2 pt2) pos) (par3S i j l fa) Un ex :=
  pr3_ W F i j l hi hj hl hij hil hjl hx hy hz ha hkd hM hR hU (fun z => sw3 (by rw [F.s z]; exact hk) (by rw [F.s z]; exact hx) (by rw [F.s z]; exact hy) (by rw [F.s z]; exact hz) ch) hs
end
end DV

set_option Elab.async false
set_option linter.all false
set_option maxRecDepth 100000
set_option maxHeartbeats 400000
namespace DV
open PySem L2 PySem.Spec
open PyProof.Rows hiding St

/-! ### a, b = x, y where a name is a cell -/
theorem swn2 {env : PySem.Env} {x y : Str} {px py pt pt2 : Pos} {kt kt2} {a b : Expr} (hx : (env.scope.names.lookup x == some .cell || env.scope.names.lookup y == some .cell) = true) :
    swappedStores [.Tuple [.Name x px, .Name y py] kt pt] (.Tuple [a, b] kt2 pt2) env = pure none := by
  have key : ∀ (q : Bool) (l : List Str) (A B D : Bool), l.length ≠ 2 → (do
      if A then return none
      if B then return none
      if l.length != 2 || D then return none
      if q then return none
      if ([a, b] : List Expr).all (constantsAlone 8) then unsupported "assign.tuple-of-constant-expressions:order-of-the-stores"
      return some l : Sem (Option (List Str))) = pure none := by
    intro q l A B D h
    have : (l.length != 2) = true := by simpa using h
    cases A <;> cases B <;> simp [this]
  refine key _ _ _ _ _ ?_
  simp only [Bool.or_eq_true, beq_iff_eq] at hx
  have kx : env.kindOf x = env.scope.names.lookup x := rfl
  have ky : env.kindOf y = env.scope.names.lookup y := rfl
  rcases hx with h | h
  · rw [h] at kx
    simp only [List.filterMap_cons, kx, List.filterMap_nil]
    simp
    split <;> simp
  · rw [h] at ky
    simp only [List.filterMap_cons, ky, List.filterMap_nil]
    simp
    split <;> simp
section
variable {C : Ct} {bs : List Str} {M : List Nat} {N : List Str} {sc : Scope} {fnv : Str → Bool} {vb lb : List Bool} {gs : List Str} {U Rv U1 U2 Un is : List Nat} {a b c tg : Expr} {fe : Env → Rs PyData} {g : PyData → Env → Option Env} {pos px py pt pt2 : Pos} {kt kt2 : Nat} {x y z0 : Str} {ex : Ex}
theorem agc_ (W : CtW C bs M) (F : CtF C N sc fnv vb lb gs) (hx : (sc.names.lookup x == some .cell || sc.names.lookup y == some .cell) = true) (he : DE C U Rv (.Tuple [a, b] kt2 pt2) fe U1 .cl) (hg : DG C is (.Tuple [.Name x px, .Name y py] kt pt) g) (hM : ∀ i ∈ is, i ∉ M ∧ i ∉ Rv) (hU : ∀ j ∈ Un, j ∈ U1 ∧ j ∉ is)
    (hs : ∀ z, swapsWithSole [.Tuple [.Name x px, .Name y py] kt pt] (.Tuple [a, b] kt2 pt2) pos.line (C.X z).env = pure false := by intro _; rfl) (h1' : ∀ z, (assignEach [.Tuple [.Name x px, .Name y py] kt pt] (C.X z).env).map (·.2) = [assign (.Tuple [.Name x px, .Name y py] kt pt) (C.X z).env] := by intro _; rfl) : DS C U Rv (.Assign [.Tuple [.Name x px, .Name y py] kt pt] (.Tuple [a, b] kt2 pt2) pos) (asgG g fe) Un ex :=
  ag_ W he hg hM hU hs (fun z => swn2 (by rw [F.s z]; exact hx)) h1'
end
end DV

set_option Elab.async false
set_option linter.all false
set_option maxRecDepth 100000
set_option maxHeartbeats 1000000
namespace DV
open PySem L2 PySem.Spec
open PyProof.Rows hiding St

/-! ### a display of a dict whose keys are written texts -/
def dspE (ks : List Str) (fa : Env → Rs (List PyData)) : Env → Rs PyData := fun env => (fa env).bind fun ds e => .ok (.dict ((ks.map PyData.str).zip ds)) e
def txV (ks : List Str) (vs : List V) : List (Key × V) := (ks.map Sum.inr).zip vs
/-- the pairs of a display: the keys are texts -/
def DP (C : Ct) (U Rv : List Nat) (pos : Pos) (keys : List (Option Expr)) (values : List Expr) (ks : List Str) (f : Env → Rs (List PyData)) (U' : List Nat) (kds : List Kd) : Prop :=
  (∀ i ∈ U', i ∈ U) ∧ (keys.all (·.isSome) = true ∧ keys.length = values.length ∧ keys.length = ks.length) ∧ ∃ trs : List (TE × TE), (∀ x, PPs (C.X x) pos keys values trs) ∧ ∀ (σ : L2.St) (H : Hp) (env : Env) (Fs : Nat → List Addr) (Q : List (V × V) → Hp → Prop), EnvR C.K C.H0 C.M U σ H env Fs →
    (f env).wp (fun ds env' => ∀ vs H' Fs' FF, TPost C U Rv σ H Fs U' env' H' Fs' → AIts C U' σ H' Fs H vs ds FF kds → vs.length = ks.length → Q ((txV ks vs).map fun kv => (kV kv.1, kv.2)) H') (EC C) → tPairs trs σ H Q
section
variable {C : Ct} {U Rv U1 U2 : List Nat} {pos kp : Pos} {keys : List (Option Expr)} {values : List Expr} {ks : List Str} {k : Str} {v : Expr} {f : Env → Rs PyData} {g : Env → Rs (List PyData)} {kds : List Kd}
theorem dp_nil : DP C U Rv pos [] [] [] nilA U [] := ⟨fun _ h => h, ⟨rfl, rfl, rfl⟩, [], fun _ => pps_nil, fun σ H env Fs Q R h => h [] H Fs [] (TPost.refl R) .nil rfl⟩
theorem dp_cons {kq : Nat} (hv : DE C U Rv v f U1 .cl) (hr : DP C U1 Rv pos keys values ks g U2 kds) : DP C U Rv pos (some (.Constant (.str k) kq kp) :: keys) (v :: values) (k :: ks) (consA f g) U2 (.cl :: kds) := by
  obtain ⟨h1, t, hp, hs⟩ := hv
  obtain ⟨h1', ⟨s1, s2, s3⟩, trs, hp', hs'⟩ := hr
  refine ⟨fun i hi => h1 i (h1' i hi), ⟨by simp [s1], by simp [s2], by simp [s3]⟩, (tC (.str k), t) :: trs, fun x => pps_cons pe_str (hp x) (hp' x), fun σ H env Fs Q R hw => ?_⟩
  show t σ H _
  refine hs σ H env Fs _ R ?_
  unfold consA at hw
  rw [wp_bind] at hw
  refine wp_mono hw fun d e1 hw v H1 Fs1 F p => ?_
  refine hs' σ H1 e1 Fs1 _ p.env ?_
  rw [wp_bind] at hw
  refine wp_mono hw fun ds e2 hw vs H2 Fs2 FF q as hl => ?_
  refine hw (v :: vs) H2 Fs2 (F :: FF) (p.t.trans q h1 fun _ z => z) (.cons ?_ ?_) (by simp [hl])
  · exact p.ait.later p.env q h1' (fun i z => nomatch z) fun e => p.knd.clean p.env fun i z => nomatch z
  · refine as.back fun a h => ?_
    rcases h with ⟨k, hk⟩ | h
    · exact p.grow k a hk
    · exact .inr (p.dom a h)
theorem mergeK_new : ∀ (kvs acc : List (Key × V)), (kvs.map (·.1)).Nodup → (∀ p ∈ kvs, ∀ q ∈ acc, q.1 ≠ p.1) → mergeK acc kvs = acc ++ kvs
  | [], acc, _, _ => by rw [List.append_nil]; rfl
  | p :: r, acc, n, h => by
    rw [List.map_cons, List.nodup_cons] at n
    have e : putK acc p.1 p.2 = acc ++ [p] := by
      unfold putK
      rw [if_neg]
      rw [List.any_eq_true]
      rintro ⟨q, m, z⟩
      exact h p List.mem_cons_self q m (of_decide_eq_true z)
    show mergeK (putK acc p.1 p.2) r = _
    rw [e, mergeK_new r _ n.2 fun a m b mb => ?_, List.append_assoc]
    · rfl
    · rcases List.mem_append.mp mb with z | z
      · exact h a (List.mem_cons_of_mem _ m) b z
      · rw [List.mem_singleton.mp z]
        intro e'
        exact n.1 (by rw [e']; exact List.mem_map_of_mem m)
theorem txV_fst : ∀ {ks : List Str} {vs : List V}, vs.length = ks.length → (txV ks vs).map (·.1) = ks.map Sum.inr
  | [], _, _ => rfl
  | k :: ks, v :: vs, h => by
    show Sum.inr k :: (txV ks vs).map (·.1) = _
    rw [txV_fst (by simpa using h)]; rfl
  | k :: ks, [], h => by cases h
theorem txV_snd : ∀ {ks : List Str} {vs : List V}, vs.length = ks.length → (txV ks vs).map (·.2) = vs
  | [], [], _ => rfl
  | [], _ :: _, h => by cases h
  | k :: ks, v :: vs, h => by
    show v :: (txV ks vs).map (·.2) = _
    rw [txV_snd (by simpa using h)]
  | k :: ks, [], h => by cases h
/-- {'a': x, 'b': y} -/
theorem de_dsp (ha : DP C U Rv pos keys values ks g U1 kds) (hk : allCl kds = true) (hn : (decide ks.Nodup && !ks.isEmpty && decide (ks.length ≤ 15)) = true) : DE C U Rv (.Dict keys values pos) (dspE ks g) U1 .fr := by
  obtain ⟨h1, ⟨s1, s2, s3⟩, trs, hp, hs⟩ := ha
  simp only [Bool.and_eq_true, decide_eq_true_eq] at hn
  obtain ⟨⟨nd, ne⟩, h15⟩ := hn
  refine ⟨h1, tDisp trs, fun x => pe_disp (hp x) s1 s2 (fun z => ?_) (by rw [s3]; exact h15), fun σ H env Fs Q R hw p np => ?_⟩
  · rw [z] at s3
    cases ks with
    | nil => cases ne
    | cons _ _ => cases s3
  have nr : ∀ a, Wr U Rv σ a → a ≠ p := fun a w e => (R.wr w).ne (e ▸ np)
  refine hs σ _ env Fs _ (R.same (same_new np)) ?_
  unfold dspE at hw
  rw [wp_bind] at hw
  refine wp_mono hw fun ds e k vs H2 Fs2 FF q as hl => ?_
  have hp2 : H2 p = some (.dK []) := q.keep p _ upd_same fun w => nr p w rfl
  have mg : mergeK [] (txV ks vs) = txV ks vs := by
    rw [mergeK_new _ _ (by rw [txV_fst hl]; exact nd.map _ fun a b n z => n (by cases z; rfl)) fun _ _ _ z => absurd z List.not_mem_nil]
    rfl
  refine ⟨hp2, txV ks vs, rfl, ?_, ?_⟩
  · show (txV ks vs).length ≤ 15
    have z := congrArg List.length (txV_fst hl)
    rw [List.length_map, List.length_map] at z
    omega
  rw [mg]
  obtain ⟨l, gr⟩ := as.repL
  have cl := as.clean hk
  have old : ∀ a, ((∃ k, a ∈ Fs k) ∨ upd H p (.dK []) a = none) → (∃ k, a ∈ Fs k) ∨ H a = none := fun a z => z.imp_right (same_new np).free
  have nin : ∀ a, ((∃ k, a ∈ Fs k) ∨ upd H p (.dK []) a = none) → ¬ a = p := fun a z e => by
    rcases z with ⟨j, m⟩ | z
    · exact R.trk m (e ▸ np)
    · rw [e, upd_same] at z
      cases z
  have hw0 : ∀ a, a = p → MutA H2 a := fun a e => e ▸ .inr (.inl ⟨_, hp2⟩)
  have kw : Keep (fun a => a = p) H2 (upd H2 p (.dK (txV ks vs))) := Keep.write rfl
  have hd : ∀ a, upd H2 p (.dK (txV ks vs)) a = none → H2 a = none := fun a z => by
    by_cases e : a = p
    · rw [e, upd_same] at z
      cases z
    · rwa [upd_ne e] at z
  have R3 := q.env.keepW kw hw0 (fun j a m e => nin a (q.grow j a m) e) hd fun _ a e => R.dom a (e ▸ np)
  have rp := l.keep kw hw0 fun a m e => nin a (gr a m) e
  have rep : Rep C.K (upd H2 p (.dK (txV ks vs))) (.ref p) (.dict ((ks.map PyData.str).zip ds)) (p :: flatF FF) := by
    have z := Rep.dctK (K := C.K) (kvs := txV ks vs) (ds := ds) (F := flatF FF) (.inl upd_same) (by rw [txV_snd hl]; exact rp)
    have e : ((txV ks vs).map fun p => keyD p.1) = ks.map PyData.str := by
      have := congrArg (List.map keyD) (txV_fst hl)
      rw [List.map_map, List.map_map] at this
      exact this
    rw [e] at z
    exact z
  refine k (.ref p) _ Fs2 (p :: flatF FF) ⟨R3, ?_, fun a z => (same_new np).free (q.dom a (hd a z)), fun j a m => old a (q.grow j a m), rep, fun a m => ?_, ?_, fun _ a e => .inl (by cases e; exact np)⟩
  · refine Keep.trans (w' := fun a => a = p) (fun a o e n => q.keep a o (same_new np a o e) n) kw fun a n e => absurd (e ▸ np) n
  · rcases List.mem_cons.mp m with z | z
    · exact .inr (z ▸ np)
    · exact old a (gr a z)
  · exact ⟨p, flatF FF, rfl, rfl, fun m => nin p (gr p m) rfl, rfl, fun j m => nin p (q.grow j p m) rfl, .inr (.inl ⟨_, upd_same⟩), R.dom p np, cl⟩
end
end DV

set_option Elab.async false
set_option linter.all false
set_option maxRecDepth 100000
set_option maxHeartbeats 1000000
namespace DV
open PySem L2 PySem.Spec
open PyProof.Rows hiding St

/-! ### dict comprehensions whose keys are tuples -/
section
variable {X : Cx}
theorem d_dictPutT {pins : List (Addr × Obj)} {σ : L2.St} {H : Hp} {s : Shared} {E : Value → Shared → Prop} {D b : Addr} {kvs : List (List Key × V)} {k : List Key} {v : V} {u r : Value} {Q : Unit → Shared → Prop} (hu : X.A.units + 2 < cLine) (I : Inv X pins σ H s) (hD : H D = some (.dT kvs)) (hb : H b = some (.tup (k.map kV))) (hz : kvs.length < sizeLine)
    (ry : RelV (.ref b) u) (rv : RelV v r) (h : ∀ s', Inv X pins σ (upd H D (.dT (putK kvs k v))) s' → Q () s') : wpAny (model X.prog X.w) X.A (dictSet D u r) Q E s := by
  cases (show u = Value.ref b from ry)
  obtain ⟨z, hd, xs, rel, dd⟩ := dt_of I.hok hD
  have hl : (putK kvs k v).length ≤ sizeLine := by have := length_putK kvs k v; omega
  refine wpAny_dictSet_heap (hsz := by rw [← Paired.length rel]; exact z) (by show _ < _; omega) (key_of I.hok hb) dd fun h' dd' hs => h _ ?_
  obtain ⟨q, es, ep, hq, h2, h3, h4, _, h5⟩ := dd'
  refine d_write I (by rw [hD]; exact True.intro) hs ⟨q, hq⟩ ⟨hl, hd, _, (rel.put k hb rv).keeps fun c ys ec => ?_, q, es, ep, hq, h2, h3, h4, h5⟩
  rw [upd_ne (ne_of ec hD (fun z => nomatch z))]
  exact ec
theorem d_dictPut {pins : List (Addr × Obj)} {σ : L2.St} {H H' : Hp} {s : Shared} {E : Value → Shared → Prop} {D : Addr} {y v : V} {u r : Value} {Q : Unit → Shared → Prop} (hu : X.A.units + 2 < cLine) (I : Inv X pins σ H s) (g : DPut H D y v H')
    (ry : RelV y u) (rv : RelV v r) (h : ∀ s', Inv X pins σ H' s' → Q () s') : wpAny (model X.prog X.w) X.A (dictSet D u r) Q E s := by
  rcases g with ⟨kvs, k, e, ey, l, eH⟩ | ⟨kvs, k, b, e, ey, eb, l, eH⟩
  · subst ey eH
    exact d_dictSet I e l ry rv h
  · subst ey eH
    exact d_dictPutT hu I e eb l ry rv h
/-- {k: v for target in iter if ..}, keys tuples: D the new dict -/
def tDcT (o0 : HO) (wi : TI) (g : TG) (tt : TT) (tk tv : TE) (vs : List Nat) : TE := fun σ H Q => wi σ H fun J H1 => ∀ D, H1 D = none → ∃ W : Nat → Nat → Hp → Prop, (∃ m, W 0 m (upd H1 D o0)) ∧ ∀ i m H, W i m H →
  (J.stop i H ∧ Q (.ref D) H) ∨ (J.go i H ∧ ∃ Nx : Hp → Prop, (∀ H', Nx H' → ∃ m', m' < m ∧ W (i + 1) m' H') ∧ ∀ x H', J.yld i H x H' → g x (wipe σ vs) H' fun σ2 H2 => wipe σ2 vs = wipe σ vs ∧ tt σ2 H2 fun b H3 =>
    if b = true then tk σ2 H3 fun y H4 => tv σ2 H4 fun z H5 => ∃ H6, DPut H5 D y z H6 ∧ Nx H6 else Nx H3)
theorem pe_dcT {o0 : HO} (ho : o0 = .dK [] ∨ o0 = .dT []) {kx vx tg iter : Expr} {ifs : List Expr} {scope : Scope} {own : List (Str × Nat)} {pos : Pos} {wi : TI} {g : TG} {tt : TT} {tk tv : TE} (hu : X.A.units + 2 < cLine) (hc : X.calm = true) (hN : X.N.Nodup) (hi : PI X tg iter wi) (ok : BlkOk X.N X.env.scope scope own)
    (hg : ∀ (s : Shared) (H : Hp) (C : Addr) (cl : List (Str × Addr)) (fp : List Addr), PG (X.blk s H scope (compEnvC scope cl C X.env) fp) tg g) (ht : ∀ (s : Shared) (H : Hp) (C : Addr) (cl : List (Str × Addr)) (fp : List Addr), PTs (X.blk s H scope (compEnvC scope cl C X.env) fp) ifs tt)
    (hk : ∀ (s : Shared) (H : Hp) (C : Addr) (cl : List (Str × Addr)) (fp : List Addr), PE (X.blk s H scope (compEnvC scope cl C X.env) fp) kx tk)
    (he : ∀ (s : Shared) (H : Hp) (C : Addr) (cl : List (Str × Addr)) (fp : List Addr), PE (X.blk s H scope (compEnvC scope cl C X.env) fp) vx tv) (hs : ∀ x, foldedSetIterable iter X.env x = pure x := by intro _; rfl) :
    PE X (.DictComp kx vx [⟨tg, iter, ifs, 0⟩] scope pos) (tDcT o0 wi g tt tk tv (own.map (·.2))) := by
  refine ⟨fun pins s σ H Q I h => ?_⟩
  rw [arm_eval_DictComp]
  have hfree : ∀ y ∈ scope.names, y.2 = .free → ∃ c, X.env.cells.lookup y.1 = some c := fun y hy e => (ok.free y hy e).elim (fun k => I.ok.has _ (.inl k)) fun k => I.ok.has _ (.inr k)
  refine wpAny_comprehension_free rfl hs (closure_ok hfree) ok.kind (fun y hy e => by rw [ok.uniq y hy, e]) (thn (hi.run pins s σ H _ I h) fun xv s1 hx => thn hx fun itv s2 ⟨it, fp, tn, J, H2, e, I2, T, st2, f2, q⟩ => ?_)
  subst e
  refine wpAny_newObj_type (newEnv_comp ?_)
  have hDn : H2 s2.heap.objs.size = none := I2.hok.fresh (Nat.le_refl _)
  obtain ⟨W, ⟨m0, w0⟩, turn⟩ := q _ hDn
  have I3 : Inv X pins σ (upd H2 s2.heap.objs.size o0) { s2 with heap := s2.heap.push { cls := .type "dict", data := .dict #[] } } :=
    I2.laid (t' := s2.toks) (fun b o e => Heap.get?_push_of_some _ e) (Nat.le_refl _) (ho.elim (fun e => e ▸ dk_empty s2.heap I2.big) fun e => e ▸ dt_empty s2.heap I2.big)
  have f3 : ∀ b ∈ fp, FpOk X pins (upd H2 s2.heap.objs.size o0) b ∧ b < (s2.heap.push { cls := .type "dict", data := .dict #[] }).objs.size := fun b hb => by
    obtain ⟨o, e, _⟩ := T.obj _ _ st2 b hb
    have hlt := Heap.lt_size e
    exact ⟨⟨(upd_ne (Nat.ne_of_lt hlt)).trans (f2 b hb).1, (f2 b hb).2⟩, by rw [Heap.size_push]; exact Nat.lt_succ_of_lt hlt⟩
  have st3 : tn 0 (s2.heap.push { cls := .type "dict", data := .dict #[] }) := T.keep _ _ _ st2 fun b _ o e => Heap.get?_push_of_some _ e
  generalize s2.heap.objs.size = D at hDn turn w0 I3 f3 ⊢
  generalize s2.heap.push { cls := .type "dict", data := .dict #[] } = hp at I3 f3 st3 ⊢
  generalize upd H2 D o0 = H3 at w0 I3 f3 ⊢
  have nfp : ∀ b ∈ fp, H3 b = none := fun b hb => (f3 b hb).1.1
  have I4 := block_start I3 ok hN f3
  generalize cellsFrom (hp.objs.size + 1) scope.names (cloFrom X.env.cells scope.names []) = cl at I4 ⊢
  have pg := hg { s2 with heap := hp } H3 hp.objs.size cl fp
  have pt := ht { s2 with heap := hp } H3 hp.objs.size cl fp
  have pk := hk { s2 with heap := hp } H3 hp.objs.size cl fp
  have pe := he { s2 with heap := hp } H3 hp.objs.size cl fp
  show codeAny _ _ (.compStart (.DictComp kx vx [⟨tg, iter, ifs, 0⟩] scope pos) 0 (.ref it) (.ref D) (compEnvC scope cl hp.objs.size X.env)) (compPost (model X.prog X.w) X.A X.xe none _ (.ref D) hp.objs.size) { s2 with heap := pushCells (hp.push { cls := .type "dict", data := .dict #[] }) scope.names }
  have cL : (compEnvC scope cl hp.objs.size X.env).locals = hp.objs.size := rfl
  have st4 : tn 0 (pushCells (hp.push { cls := .type "dict", data := .dict #[] }) scope.names) := T.keep _ _ _ st3 fun b _ o e => pushCells_keeps _ _ _ _ (Heap.get?_push_of_some _ e)
  generalize compEnvC scope cl hp.objs.size X.env = ce at cL I4 pg pt pk pe ⊢
  generalize pushCells (hp.push { cls := .type "dict", data := .dict #[] }) scope.names = hp4 at I4 st4 ⊢
  have stat : ∀ {σ' : L2.St} {H' : Hp} {s' : Shared}, Inv (X.blk { s2 with heap := hp } H3 scope ce fp) [] σ' H' s' → (∀ b ∈ fp, H' b = none) → ∀ b ∈ fp, FpOk (X.blk { s2 with heap := hp } H3 scope ce fp) [] H' b := fun I' hn b hb =>
    ⟨hn b hb, (I'.ok.exf b hb).1, I'.ok.exfs b hb, .inl hb, fun x c e => (I'.ok.exf b hb).2 x c e, fun p hp => absurd (show p ∈ ([] : List (Addr × Obj)) ++ [] from hp) (by simp)⟩
  have loop := compLoop_anyD (prog := X.prog) (w := X.w) (A := X.A) (kx := kx) (vx := vx) (target := tg) (iter := iter) (ifs := ifs) (scope := scope) (pos := pos) (it := .ref it) (D := D) (env := ce) (R := compPost (model X.prog X.w) X.A X.xe none (fun v s' => ∃ x H', Inv X pins σ H' s' ∧ RelV x v ∧ Q x H') (.ref D) hp.objs.size)
    (s := { s2 with heap := hp4 }) (fun n s' => ∃ i H', Inv (X.blk { s2 with heap := hp } H3 scope ce fp) [] (wipe σ (own.map (·.2))) H' s' ∧ tn i s'.heap ∧ (∀ b ∈ fp, H' b = none) ∧ W i n H') (by
    rintro n s5 ⟨i, H5, I5, st5, n5, w5⟩
    rcases turn i n H5 w5 with ⟨stop, qq⟩ | ⟨go, Nx, hNx, step⟩
    · refine thnF (T.done (X.blk { s2 with heap := hp } H3 scope ce fp) rfl rfl rfl hc i [] s5 _ H5 (fun _ _ => False) I5 (stat I5 n5) st5 stop) fun r s6 ⟨hr, I6⟩ => ?_
      subst hr
      have I7 : Inv X pins σ H5 s6 := I3.call' (ch := fp) I6.os I6.base I6.hok I6.bare fun b hb => ⟨(f3 b hb).1.2.2.2.1, (f3 b hb).1.2.1, (f3 b hb).1.2.2.2.2.1, (f3 b hb).1.2.2.2.2.2⟩
      have nC : H5 hp.objs.size = none := cL ▸ (show H5 ce.locals = none from I6.free)
      obtain ⟨m, hn, _⟩ := I6.loc
      obtain ⟨f0, f1, f2, f3, f4, f5⟩ := I3.fpOk (Nat.le_refl _) nC
      exact ⟨m, cL ▸ (show s6.heap.Ns ce.locals m from hn), fun h'' sb => ⟨.ref D, H5, I7.turned (t' := s6.toks) (fun b o hb e => (sb.2 b hb).trans e) f0 f1 f3 f4 f5, rfl, qq⟩⟩
    · refine thnF (T.item (X.blk { s2 with heap := hp } H3 scope ce fp) rfl rfl rfl hc i [] s5 _ H5 (fun _ _ => False) I5 (stat I5 n5) st5 go) fun r s6 ⟨u, hr, h6⟩ => ?_
      subst hr
      refine thnF h6 fun _ s7 ⟨x, H7, I7, r7, y7, st7, n7⟩ => ?_
      refine thnF (pg.run _ s7 _ H7 x u _ (I7.pinned (stat I7 n7) (T.obj _ _ st7)) r7 (step x H7 y7)) fun _ s8 ⟨σ8, H8, I8, hw8, q8⟩ => ?_
      refine thnF (pt.run _ s8 σ8 H8 _ I8 q8) fun b s9 ⟨H9, I9, q9⟩ => ?_
      have fin : ∀ {s' : Shared} {H' : Hp}, Inv (X.blk { s2 with heap := hp } H3 scope ce fp) ([] ++ pinsAt fp s7.heap) σ8 H' s' → Nx H' → ∃ m, m < n ∧ ∃ i H', Inv (X.blk { s2 with heap := hp } H3 scope ce fp) [] (wipe σ (own.map (·.2))) H' s' ∧ tn i s'.heap ∧ (∀ b ∈ fp, H' b = none) ∧ W i m H' := fun {s' H'} I' nx => by
        obtain ⟨m', hm, w'⟩ := hNx H' nx
        have pin' : ∀ b ∈ fp, ∀ o, s7.heap.get? b = some o → s'.heap.get? b = some o ∧ H' b = none := fun b hb o e =>
          have z := I'.pin (b, o) (List.mem_append_right _ (List.mem_append_right _ (mem_pinsAt hb e)))
          ⟨z.1, z.2.1⟩
        refine ⟨m', hm, i + 1, H', (I'.unpinned (pins := [])).weak (by rw [← hw8, wipe_length]) (fun j v e => ?_), T.keep _ _ _ st7 fun b hb o e => (pin' b hb o e).1, fun b hb => ?_, w'⟩
        · rw [← hw8] at e
          exact (wipe_some e).1
        · obtain ⟨o, e, _⟩ := T.obj _ _ st7 b hb
          exact (pin' b hb o e).2
      cases b with
      | false => exact fin I9 q9
      | true =>
        refine thnF (pk.run _ s9 σ8 H9 _ I9 q9) fun z s10 ⟨yk, H10, I10, r10, q10⟩ => ?_
        refine thnF (pe.run _ s10 σ8 H10 _ I10 q10) fun z2 s11 ⟨yv, H11, I11, r11, H12, g12, nx⟩ => ?_
        exact d_dictPut (X := X.blk { s2 with heap := hp } H3 scope ce fp) hu I11 g12 r10 r11 fun s12 I12 => fin I12 nx) m0 ⟨0, H3, I4, st4, nfp, w0⟩
  exact codeAny_compStart_dict loop (T.self X.A 0 _ _ _ st4 loop)
end
end DV

set_option Elab.async false
set_option linter.all false
set_option maxRecDepth 100000
set_option maxHeartbeats 2000000
namespace DV
open PySem L2 PySem.Spec
open PyProof.Rows hiding St

/-! ### dict comprehensions as data -/
def dcL (own : List Nat) (g : PyData → Env → Option Env) (fc : Env → Rs Bool) (fk fv : Env → Rs PyData) : List PyData → PyData → Env → Rs PyData
  | [], r, e => .ok r e
  | d :: ds, r, e => match g d (wipeE e own) with
    | some e1 => (fc e1).nx.bind fun b e2 => if b = true then (fk e2).nx.bind fun k e3 => (fv e3).nx.bind fun y e4 => (Rs.of (dput r k y) e4).bind fun r' e5 => dcL own g fc fk fv ds r' e5 else dcL own g fc fk fv ds r e2
    | none => .bad
def dcE (t : Bool) (own : List Nat) (fi : Env → Rs (List PyData)) (g : PyData → Env → Option Env) (fc : Env → Rs Bool) (fk fv : Env → Rs PyData) : Env → Rs PyData := fun env => (fi env).bind fun items e0 =>
  (dcL own g fc fk fv items (if t = true then .dict [(.none, .none)] else .dict []) e0).bind fun d e1 => .ok d (wipeE e1 own)
def newO (t : Bool) : HO := if t = true then .dT [] else .dK []
section
variable {C : Ct} {U Rv Rv2 U1 UL Rb : List Nat} {is : List Nat} {kx vx tg it : Expr} {ifs : List Expr} {scope : Scope} {fi : Env → Rs (List PyData)} {g : PyData → Env → Option Env} {fc : Env → Rs Bool} {fk fv : Env → Rs PyData} {pos : Pos}
structure DcInv (C : Ct) (UL : List Nat) (σ : L2.St) (H : Hp) (Fs : Nat → List Addr) (vs : List Nat) (H1 : Hp) (D : Addr) (Rv2 : List Nat) (e' : Env) (Fs' : Nat → List Addr) (σ2 : L2.St) (H' : Hp) (d : PyData) (G : List Addr) : Prop where
  env : EnvR C.K C.H0 C.M UL σ2 H' e' Fs'
  wip : L2.wipe σ2 vs = L2.wipe σ vs
  keep : Keep (Wr UL Rv2 σ) H1 H'
  dom : ∀ a, H' a = none → H1 a = none
  grow : ∀ j a, a ∈ Fs' j → (∃ k, a ∈ Fs k) ∨ H a = none
  dn : ∀ j, D ∉ Fs' j
  mu : MutA H' D
  rep : Rep C.K H' (.ref D) d (D :: G)
  ic : isC d = true
  dG : D ∉ G
  cG : Clean UL σ G
  gG : ∀ a ∈ G, (∃ k, a ∈ Fs k) ∨ H a = none
theorem mut_keep {w : Addr → Prop} {H H' : Hp} {a : Addr} (m : MutA H a) (k : Keep w H H') (n : ¬ w a) : MutA H' a := by
  rcases m with ⟨x, e⟩ | ⟨x, e⟩ | ⟨x, e⟩
  · exact .inl ⟨x, k _ _ e n⟩
  · exact .inr (.inl ⟨x, k _ _ e n⟩)
  · exact .inr (.inr ⟨x, k _ _ e n⟩)
theorem DcInv.step {σ σ2 : L2.St} {H H1 H' H2 : Hp} {Fs Fs' Fs2 : Nat → List Addr} {vs : List Nat} {D : Addr} {e' e2 : Env} {d : PyData} {G : List Addr} (I : DcInv C UL σ H Fs vs H1 D Rv2 e' Fs' σ2 H' d G)
    (q : TPost (blkC C scope) UL Rv2 σ2 H' Fs' UL e2 H2 Fs2) (roots : ∀ j ∈ UL, σ2[j]? = σ[j]?) (pd : ∀ a, H1 a = none → H a = none) : DcInv C UL σ H Fs vs H1 D Rv2 e2 Fs2 σ2 H2 d G := by
  have tr : ∀ a, Wr UL Rv2 σ2 a → Wr UL Rv2 σ a := fun a ⟨i, q1, q2, q3⟩ => ⟨i, q1, q2, by rw [← roots i q1]; exact q3⟩
  have nD : ¬ Wr UL Rv2 σ2 D := fun ⟨i, q1, _, q3⟩ => by
    obtain ⟨_, _, _, _, e, _⟩ := I.env.root q1 q3
    exact I.dn i (by rw [e]; exact List.mem_cons_self)
  refine ⟨q.env, I.wip, I.keep.trans q.keep fun a _ z => tr a z, fun a e => I.dom a (q.dom a e), fun j a m => ?_, fun j m => ?_, mut_keep I.mu q.keep nD, I.rep.keep q.keep (fun a z => I.env.wr z) fun a m w => ?_, I.ic, I.dG, I.cG, I.gG⟩
  · rcases q.grow j a m with ⟨k, hk⟩ | z
    · exact I.grow k a hk
    · exact .inr (pd a (I.dom a z))
  · rcases q.grow j D m with ⟨k, hk⟩ | z
    · exact I.dn k hk
    · exact I.mu.ne z
  · rcases List.mem_cons.mp m with z | z
    · exact nD (z ▸ w)
    · obtain ⟨i, q1, q2, q3⟩ := w
      rw [roots i q1] at q3
      exact I.cG i q1 a q3 z
theorem de_dcP {Pre : L2.St → Hp → Prop} {own : List (Str × Nat)} (t : Bool) (hu : ∀ z, (C.X z).A.units + 2 < cLine) (hc : ∀ z, (C.X z).calm = true) (hN : ∀ z, (C.X z).N.Nodup) (hi : DIp C Pre U Rv tg it fi U1 Rb) (ok : ∀ z, BlkOk (C.X z).N (C.X z).env.scope scope own)
    (hg : DG (blkC C scope) is tg g) (ht : DTs (blkC C scope) UL Rv2 ifs fc) (hk : DE (blkC C scope) UL Rv2 kx fk UL .cl) (he : DE (blkC C scope) UL Rv2 vx fv UL .cl)
    (hL : ∀ i ∈ UL, i ∈ U1 ∧ i ∉ is ∧ i ∉ own.map (·.2)) (hR : ∀ i ∈ Rv, i ∈ Rv2) (hRb : ∀ i ∈ Rb, i ∈ Rv2) (hM : ∀ i ∈ is, i ∉ C.M ∧ i ∉ Rv2) (his : ∀ i ∈ is, i ∈ own.map (·.2)) (hs : ∀ z y, foldedSetIterable it (C.X z).env y = pure y := by intro _ _; rfl) :
    DEp C Pre U Rv (.DictComp kx vx [⟨tg, it, ifs, 0⟩] scope pos) (dcE t (own.map (·.2)) fi g fc fk fv) UL .fr := by
  obtain ⟨h1, w, wp', ws⟩ := hi
  obtain ⟨tg', gp, gs⟩ := hg
  obtain ⟨tt, tp, ts⟩ := ht
  obtain ⟨_, tk, kp, ks⟩ := hk
  obtain ⟨_, te, ep, es⟩ := he
  have ho : newO t = .dK [] ∨ newO t = .dT [] := match t with
    | false => .inl rfl
    | true => .inr rfl
  refine ⟨fun i h => h1 i (hL i h).1, tDcT (newO t) w tg' tt tk te (own.map (·.2)), fun z => pe_dcT ho (hu z) (hc z) (hN z) (wp' z) (ok z) (fun s H Ca cl fp => gp (z, s, H, Ca, cl, fp)) (fun s H Ca cl fp => tp (z, s, H, Ca, cl, fp)) (fun s H Ca cl fp => kp (z, s, H, Ca, cl, fp)) (fun s H Ca cl fp => ep (z, s, H, Ca, cl, fp)) (hs z), fun σ H env Fs Q R hpre h => ws σ H env Fs _ R hpre ?_⟩
  generalize hvs : own.map (·.2) = vs at *
  unfold dcE at h
  rw [wp_bind] at h
  refine wp_mono h fun items e0 k J H1 Fs1 hold Fh Fi p ok' hh0 hFh hFi gFi tFi D hD => ?_
  rw [wp_bind] at k
  have R1 : EnvR C.K C.H0 C.M UL σ H1 e0 Fs1 := p.env.weak fun i hi => (hL i hi).1
  have noW : ∀ a ∈ Fh, ¬ Wr UL Rv2 σ a := fun a ha ⟨j, q1, q2, q3⟩ => hFh j (hL j q1).1 (fun z => q2 (hRb j z)) a q3 ha
  have s0 : Same H1 (upd H1 D (newO t)) := same_new hD
  have I0 : DcInv C UL σ H Fs vs H1 D Rv2 e0 Fs1 σ (upd H1 D (newO t)) (if t = true then .dict [(.none, .none)] else .dict []) [] := by
    refine ⟨R1.same s0, rfl, Keep.same s0, fun a e => s0.free e, p.grow, fun j m => p.env.trk m hD, ?_, ?_, ?_, List.not_mem_nil, Clean.nil, fun _ m => nomatch m⟩
    · cases t
      · exact .inr (.inl ⟨_, upd_same⟩)
      · exact .inr (.inr ⟨_, upd_same⟩)
    · cases t
      · exact .dctK (kvs := []) (.inl upd_same) .nil
      · exact .dctT (kvs := []) (.inl upd_same) .nil
    · cases t <;> rfl
  generalize (if t = true then PyData.dict [(.none, .none)] else .dict []) = d0 at I0 k
  have fin : ∀ {e' : Env} {Fs' : Nat → List Addr} {σ2 : L2.St} {H' : Hp} {d : PyData} {G : List Addr}, DcInv C UL σ H Fs vs H1 D Rv2 e' Fs' σ2 H' d G →
      (∀ v H' Fs' F, EPost C U Rv σ H Fs UL .fr d (wipeE e' vs) v H' Fs' F → Q v H') → Q (.ref D) H' := fun {e' Fs' σ2 H' d G} I k => by
    have R' : EnvR C.K C.H0 C.M UL σ H' (wipeE e' vs) (wipeF Fs' vs) := I.env.unWipe I.wip fun i hi => ⟨hi, (hL i hi).2.2⟩
    refine k _ H' (wipeF Fs' vs) (D :: G) ⟨R', p.keep.trans (I.keep.mono (w' := Wr UL Rv2 σ) fun _ z => z) fun a n z => ?_, fun a e => p.dom a (I.dom a e), fun j a m => I.grow j a (wipeF_sub m), I.rep, fun a m => ?_, ⟨D, G, rfl, rfl, I.dG, I.ic, fun j m => I.dn j (wipeF_sub m), I.mu, p.env.dom D hD, I.cG⟩, fun _ a ha => ?_⟩
    · obtain ⟨i, q1, q2, q3⟩ := z
      exact ⟨i, h1 i (hL i q1).1, fun z => q2 (hR i z), q3⟩
    · rcases List.mem_cons.mp m with z | z
      · exact .inr (by rw [z]; exact p.dom D hD)
      · exact I.gG a z
    · cases ha
      exact .inl (p.dom _ hD)
  refine ⟨fun i m H' => m = items.length - i ∧ i ≤ items.length ∧ ∃ e' Fs' σ2 d G, DcInv C UL σ H Fs vs H1 D Rv2 e' Fs' σ2 H' d G ∧
    (dcL vs g fc fk fv (items.drop i) d e').wp (fun r e4 => ∀ v H' Fs' F, EPost C U Rv σ H Fs UL .fr r (wipeE e4 vs) v H' Fs' F → Q v H') (EC C), ⟨items.length, rfl, Nat.zero_le _, e0, Fs1, σ, d0, [], I0, k⟩, ?_⟩
  rintro i m H' ⟨rfl, hi, e', Fs', σ2, d, G, I, k'⟩
  have hh : hold H' := ok'.keep _ _ _ hh0 I.keep (fun a z => R1.wr z) noW
  by_cases hlt : i < items.length
  · have hd : items[i]? = some items[i] := List.getElem?_eq_getElem hlt
    have hdrop : items.drop i = items[i] :: items.drop (i + 1) := List.drop_eq_getElem_cons hlt
    rw [hdrop] at k'
    unfold dcL at k'
    refine .inr ⟨ok'.go i H' hh hlt, fun H2 => ∃ e2 Fs2 σ2 d G, DcInv C UL σ H Fs vs H1 D Rv2 e2 Fs2 σ2 H2 d G ∧
      (dcL vs g fc fk fv (items.drop (i + 1)) d e2).wp (fun r e4 => ∀ v H' Fs' F, EPost C U Rv σ H Fs UL .fr r (wipeE e4 vs) v H' Fs' F → Q v H') (EC C), fun H2 ⟨e2, Fs2, q0⟩ => ⟨items.length - (i + 1), by omega, rfl, hlt, e2, Fs2, q0⟩, fun y H2 hy => ?_⟩
    obtain ⟨sm, F, rF, sF⟩ := ok'.yld i H' y H2 _ hh hy hd
    cases hg1 : g items[i] (wipeE e' vs) with
    | none =>
      rw [hg1] at k'
      exact (show False from k').elim
    | some e1 =>
      rw [hg1] at k'
      simp only at k'
      rw [wp_bind] at k'
      have Rw : EnvR C.K C.H0 C.M UL (L2.wipe σ vs) H' (wipeE e' vs) (wipeF Fs' vs) := I.env.toWipe I.wip fun i hi => ⟨hi, (hL i hi).2.2⟩
      have roots : ∀ {σ' : L2.St}, L2.wipe σ' vs = L2.wipe σ vs → ∀ j ∈ UL, σ'[j]? = σ[j]? := fun h j hj => wipe_eq h (hL j hj).2.2
      have cF : Clean UL (L2.wipe σ vs) F := fun j hj a ea m => by
        rw [roots (wipe_wipe σ vs) j hj] at ea
        exact hFi j (hL j hj).1 a ea (sF a m)
      refine gs UL Rv2 UL (L2.wipe σ vs) H2 (wipeE e' vs) e1 (wipeF Fs' vs) y items[i] F _ (Rw.same sm) rF cF hg1 hM (fun j hj => ⟨hj, (hL j hj).2.1⟩) fun σ3 Fs3 R3 g3 f3 l3 => ?_
      have w3 : L2.wipe σ3 vs = L2.wipe σ vs := by
        rw [← wipe_wipe σ vs]
        refine List.ext_getElem? fun j => ?_
        by_cases hj : j ∈ vs
        · exact wipe_key l3 hj
        · rw [wipe_get hj, wipe_get hj]
          exact f3 j fun z => hj (his j z)
      refine ⟨w3, ?_⟩
      have rt := roots w3
      have I3 : DcInv C UL σ H Fs vs H1 D Rv2 e1 Fs3 σ3 H2 d G := by
        refine ⟨R3, w3, I.keep.trans (Keep.same (w := fun _ => False) sm) (fun _ _ z => z.elim), fun a e => I.dom a (sm.free e), fun j a m => ?_, fun j m => ?_, I.mu.same sm, I.rep.same sm, I.ic, I.dG, I.cG, I.gG⟩
        · rcases g3 j a m with ⟨l, hl⟩ | hl
          · exact I.grow l a (wipeF_sub hl)
          · exact gFi a (sF a hl)
        · rcases g3 j D m with ⟨l, hl⟩ | hl
          · exact I.dn l (wipeF_sub hl)
          · exact tFi D (.inl (sF D hl)) hD
      refine ts σ3 H2 e1 Fs3 _ R3 (wp_mono (wp_nx k') fun b e2 k2 H3 Fs4 q => ?_)
      have I4 := I3.step (scope := scope) q rt p.dom
      cases b with
      | false =>
        simp only [Bool.false_eq_true, if_false] at k2 ⊢
        exact ⟨e2, Fs4, σ3, d, G, I4, k2⟩
      | true =>
        simp only [if_true] at k2 ⊢
        rw [wp_bind] at k2
        refine ks σ3 H3 e2 Fs4 _ q.env (wp_mono (wp_nx k2) fun kd e3 k3 kv H4 Fs5 Fk p5 => ?_)
        have I5 := I4.step (scope := scope) p5.t rt p.dom
        rw [wp_bind] at k3
        refine es σ3 H4 e3 Fs5 _ p5.env (wp_mono (wp_nx k3) fun yd e4 k4 v H5 Fs6 F6 p6 => ?_)
        have I6 := I5.step (scope := scope) p6.t rt p.dom
        rw [wp_bind] at k4
        obtain ⟨d', hd', k5⟩ := wp_of k4
        have ck : ∀ a ∈ Fk, ¬ Wr UL Rv2 σ3 a := Clean.nowr p5.knd
        have rk : Rep C.K H5 kv kd Fk := p5.rep.keep p6.keep (fun a z => I5.env.wr z) ck
        have nDv : D ∉ F6 := fun m => by
          rcases p6.fgrow D m with ⟨l, hl⟩ | z
          · exact I5.dn l hl
          · exact I5.mu.ne z
        obtain ⟨H6, G', gp6, rp6, sub6, ic6, mu6, kp6, dm6⟩ := dput_rep I6.rep I6.mu I6.dG rk p6.rep nDv hd'
        have wD : ∀ a, a = D → MutA H5 a := fun a e => e ▸ I6.mu
        refine ⟨H6, gp6, e4, Fs6, σ3, d', G', ⟨I6.env.keepW kp6 wD (fun j a m e => I6.dn j (e ▸ m)) dm6 fun _ a e => e ▸ R1.dom D hD, I6.wip, fun a o e n => ?_, fun a e => I6.dom a (dm6 a e), I6.grow, I6.dn, mu6, rp6, ic6, fun m => ?_, fun j hj a ea m => ?_, fun a m => ?_⟩, k5⟩
        · exact kp6 a o (I6.keep a o e n) fun z => by rw [z, hD] at e; cases e
        · exact (sub6 D m).elim I6.dG nDv
        · rcases sub6 a m with z | z
          · exact I6.cG j hj a ea z
          · rw [← rt j hj] at ea
            exact p6.knd j hj a ea z
        · rcases sub6 a m with z | z
          · exact I6.gG a z
          · rcases p6.fgrow a z with ⟨l, hl⟩ | z
            · exact I5.grow l a hl
            · exact .inr (p.dom a (I5.dom a z))
  · have e : i = items.length := by omega
    subst e
    rw [List.drop_length] at k'
    exact .inl ⟨ok'.stop _ H' hh rfl, fin I k'⟩
end
end DV

set_option Elab.async false
set_option linter.all false
set_option maxRecDepth 100000
set_option maxHeartbeats 1000000
namespace DV
open PySem L2 PySem.Spec
open PyProof.Rows hiding St

theorem dcE_bad {t : Bool} {i : Nat} {own : List Nat} {ent : PyData → Option (List (PyData × PyData))} {pr : PyData × PyData → PyData} {tg : PyData → Env → Option Env} {fc : Env → Rs Bool} {fk fv : Env → Rs PyData} (hent : ∀ d kvs, ent d = some kvs → entsD d = some kvs) : ∀ env, ¬ isDct i env → dcE t own (walkD ent pr i) tg fc fk fv env = .bad := fun env h => by
  unfold dcE walkD
  split
  · rename_i d e
    split
    · rename_i kvs he
      exact absurd ⟨d, kvs, e, hent d _ he⟩ h
    · rfl
  · rfl
section
variable {C : Ct} {bs : List Str} {M : List Nat} {N : List Str} {sc scope : Scope} {fnv : Str → Bool} {vb lb vb' lb' : List Bool} {gs gs' : List Str} {U Rv Rv2 U1 UL Rb is : List Nat} {kx vx tg it : Expr} {ifs : List Expr} {fi : Env → Rs (List PyData)} {g : PyData → Env → Option Env} {fc : Env → Rs Bool} {fk fv : Env → Rs PyData} {pos : Pos}
theorem CtW.u2 (W : CtW C bs M) : ∀ z, (C.X z).A.units + 2 < cLine := fun z => by
  have := (W.rm z).un
  omega
theorem dc_ {own : List (Str × Nat)} (t : Bool) (W : CtW C bs M) (F : CtF C N sc fnv vb lb gs) (hi : DI C U Rv tg it fi U1 Rb) (ok : L2.blkC N sc scope own = true) (chk : chkN N (relS scope sc) (fun x => scope.names.lookup x == some .cell) vb' lb' gs' = true)
    (hg : CtF (blkC C scope) N (relS scope sc) (fun x => scope.names.lookup x == some .cell) vb' lb' gs' → DG (blkC C scope) is tg g) (ht : CtF (blkC C scope) N (relS scope sc) (fun x => scope.names.lookup x == some .cell) vb' lb' gs' → DTs (blkC C scope) UL Rv2 ifs fc)
    (hk : CtF (blkC C scope) N (relS scope sc) (fun x => scope.names.lookup x == some .cell) vb' lb' gs' → DE (blkC C scope) UL Rv2 kx fk UL .cl) (he : CtF (blkC C scope) N (relS scope sc) (fun x => scope.names.lookup x == some .cell) vb' lb' gs' → DE (blkC C scope) UL Rv2 vx fv UL .cl)
    (hL : ∀ i ∈ UL, i ∈ U1 ∧ i ∉ is ∧ i ∉ own.map (·.2)) (hR : ∀ i ∈ Rv, i ∈ Rv2) (hRb : ∀ i ∈ Rb, i ∈ Rv2) (hM : ∀ i ∈ is, i ∉ M ∧ i ∉ Rv2) (his : ∀ i ∈ is, i ∈ own.map (·.2)) (hs : ∀ z y, foldedSetIterable it (C.X z).env y = pure y := by intro _ _; rfl) :
    DE C U Rv (.DictComp kx vx [⟨tg, it, ifs, 0⟩] scope pos) (dcE t (own.map (·.2)) fi g fc fk fv) UL .fr := by
  obtain ⟨h1, t, tp, ts⟩ := de_dcP t W.u2 W.cm F.nd hi (F.bok ok) (hg (F.blk chk)) (ht (F.blk chk)) (hk (F.blk chk)) (he (F.blk chk)) hL hR hRb (by rw [W.mE]; exact hM) his hs
  exact ⟨h1, t, tp, fun σ H env Fs Q R h => ts σ H env Fs Q R trivial h⟩
theorem dd_ {i : Nat} {ent : PyData → Option (List (PyData × PyData))} {pr : PyData × PyData → PyData} {own : List (Str × Nat)} (t : Bool) (W : CtW C bs M) (F : CtF C N sc fnv vb lb gs) (hi : DIp C (Lkd i) U Rv tg it (walkD ent pr i) U1 Rb) (hn : i ∉ U) (hent : ∀ d kvs, ent d = some kvs → entsD d = some kvs) (ok : L2.blkC N sc scope own = true) (chk : chkN N (relS scope sc) (fun x => scope.names.lookup x == some .cell) vb' lb' gs' = true)
    (hg : CtF (blkC C scope) N (relS scope sc) (fun x => scope.names.lookup x == some .cell) vb' lb' gs' → DG (blkC C scope) is tg g) (ht : CtF (blkC C scope) N (relS scope sc) (fun x => scope.names.lookup x == some .cell) vb' lb' gs' → DTs (blkC C scope) UL Rv2 ifs fc)
    (hk : CtF (blkC C scope) N (relS scope sc) (fun x => scope.names.lookup x == some .cell) vb' lb' gs' → DE (blkC C scope) UL Rv2 kx fk UL .cl) (he : CtF (blkC C scope) N (relS scope sc) (fun x => scope.names.lookup x == some .cell) vb' lb' gs' → DE (blkC C scope) UL Rv2 vx fv UL .cl)
    (hL : ∀ i ∈ UL, i ∈ U1 ∧ i ∉ is ∧ i ∉ own.map (·.2)) (hR : ∀ i ∈ Rv, i ∈ Rv2) (hRb : ∀ i ∈ Rb, i ∈ Rv2) (hM : ∀ i ∈ is, i ∉ M ∧ i ∉ Rv2) (his : ∀ i ∈ is, i ∈ own.map (·.2)) (hs : ∀ z y, foldedSetIterable it (C.X z).env y = pure y := by intro _ _; rfl) :
    DE C U Rv (.DictComp kx vx [⟨tg, it, ifs, 0⟩] scope pos) (dcE t (own.map (·.2)) (walkD ent pr i) g fc fk fv) UL .fr :=
  de_lock (de_dcP t W.u2 W.cm F.nd hi (F.bok ok) (hg (F.blk chk)) (ht (F.blk chk)) (hk (F.blk chk)) (he (F.blk chk)) hL hR hRb (by rw [W.mE]; exact hM) his hs) hn (dcE_bad hent)
end
end DV

set_option Elab.async false
set_option linter.all false
set_option maxRecDepth 100000
set_option maxHeartbeats 1000000
namespace DV
open PySem L2 PySem.Spec
open PyProof.Rows hiding St

/-! ### own slots may be forgotten at the start -/
section
variable {C : Ct} {U U2 Rv U' Un : List Nat} {σ σ' : L2.St} {H H' : Hp} {Fs Fs' : Nat → List Addr} {env' : Env} {e : Expr} {s : Stmt} {f : Env → Rs PyData} {fs : Env → Rs Fl} {kd : Kd} {d : PyData} {v : V} {F : List Addr} {ex : Ex}
theorem Wr.sub {a : Addr} (h : ∀ i ∈ U2, i ∈ U) (w : Wr U2 Rv σ a) : Wr U Rv σ a := let ⟨i, h1, h2, h3⟩ := w; ⟨i, h i h1, h2, h3⟩
theorem EPost.big (h : ∀ i ∈ U2, i ∈ U) (p : EPost C U2 Rv σ H Fs U' kd d env' v H' Fs' F) : EPost C U Rv σ H Fs U' kd d env' v H' Fs' F :=
  ⟨p.env, p.keep.mono fun _ => Wr.sub h, p.dom, p.grow, p.rep, p.fgrow, p.knd, fun e a q => (p.frw e a q).imp_right (Wr.sub h)⟩
theorem de_in (U2 : List Nat) (hd : DE C U2 Rv e f U' kd) (h : ∀ i ∈ U2, i ∈ U) : DE C U Rv e f U' kd := by
  obtain ⟨h1, t, tp, ts⟩ := hd
  exact ⟨fun i hi => h i (h1 i hi), t, tp, fun σ H env Fs Q R hw => ts σ H env Fs Q (R.weak h) (wp_mono hw fun d env' k v H' Fs' F p => k v H' Fs' F (p.big h))⟩
theorem SPost.big (h : ∀ i ∈ U2, i ∈ U) (p : SPost C U2 Rv σ H Fs U' σ' H' env' Fs') : SPost C U Rv σ H Fs U' σ' H' env' Fs' :=
  ⟨p.env, p.keep.mono fun _ => Wr.sub h, p.dom, p.grow, fun i hi hr a e => (p.root i hi hr a e).imp_left (Wr.sub h), p.fix, fun i hi hr => h i (p.res i hi hr)⟩
theorem ds_in (U2 : List Nat) (hd : DS C U2 Rv s fs Un ex) (h : ∀ i ∈ U2, i ∈ U) : DS C U Rv s fs Un ex := by
  obtain ⟨t, tp, ts⟩ := hd
  refine ⟨t, tp, fun σ H env Fs D R hw => ts σ H env Fs D (R.weak h) (wp_mono hw fun fl env' k => ?_)⟩
  cases fl with
  | nx => exact fun σ' H' Fs' p => k σ' H' Fs' (p.big h)
  | bk => exact fun σ' H' Fs' p => k σ' H' Fs' (p.big h)
  | ct => exact fun σ' H' Fs' p => k σ' H' Fs' (p.big h)
  | rt d => exact fun v σ' H' Fs' F p => k v σ' H' Fs' F ⟨p.s.big h, p.rep, p.fgrow, p.knd⟩
end
end DV

set_option Elab.async false
set_option linter.all false
set_option maxRecDepth 100000
set_option maxHeartbeats 1000000
namespace DV
open PySem L2 PySem.Spec
open PyProof.Rows hiding St

/-! ### a display of one pair whose key is a tuple -/
def tDsp1 (tk tv : TE) : TE := fun σ H Q => ∀ p, H p = none → tk σ (upd H p (.dT [])) fun y H1 => tv σ H1 fun z H2 => ∃ H3, H2 p = some (.dT []) ∧ DPut H2 p y z H3 ∧ Q (.ref p) H3
theorem pe_dsp1 {X : Cx} {pos : Pos} {k v : Expr} {tk tv : TE} (hu : X.A.units + 2 < cLine) (hk : PE X k tk) (hv : PE X v tv) : PE X (.Dict [some k] [v] pos) (tDsp1 tk tv) := by
  refine ⟨fun pins s σ H Q I q => ?_⟩
  have hn := I.hok.fresh (Nat.le_refl s.heap.objs.size)
  have I1 := I.laid (a := s.heap.objs.size) (o := .dT []) (h' := s.heap.push { cls := .type "dict", data := .dict #[] }) (t' := s.toks) (fun _ _ q => Heap.get?_push_of_some _ q) (Nat.le_refl _) (dt_empty s.heap I.big)
  rw [arm_eval_Dict, zip_pairTrees [some k] [v] X.env pos rfl rfl, dictDisplay_pairs (pairTrees [some k] [v] X.env pos) (by intro z; cases z) (show 1 < 17 by decide)]
  refine wpAny_bind (wpAny_standAt (wpAny_bind (wpAny_subDictH (knd := tupleKind (mixKind X.prog X.w)) (by show _ < _; omega) (show 1 ≤ 15 by decide) ?_)))
  refine pairTrees_cons_walk (thn (hk.run pins _ σ _ _ I1 (q _ hn)) fun u s1 ⟨y, H1, I2, ry, q1⟩ => thn (hv.run pins s1 σ H1 _ I2 q1) fun w s2 ⟨z, H2, I3, rz, H3, e, g, q2⟩ => pairTrees_nil_walk ?_)
  rcases g with ⟨kvs, kk, e', _⟩ | ⟨kvs, kk, b, e', ey, eb, l, eH⟩
  · rw [e] at e'
    cases e'
  rw [e] at e'
  cases e'
  subst ey eH
  cases (show u = Value.ref b from ry)
  obtain ⟨_, hd, xs, rel, dd⟩ := dt_of I3.hok e
  cases rel
  refine ⟨[(kk, b, w)], ⟨rfl, rfl, key_of I3.hok eb, trivial⟩, dd, fun h' tk' dd' hs => wpAny_pure ⟨.ref s.heap.objs.size, _, ?_, rfl, q2⟩⟩
  have dd2 : h'.DictOfH (tupleKind (mixKind X.prog X.w)) s.heap.objs.size (storedH [] kk b w) := dd'
  obtain ⟨o, es, ep, hq, h2, h3, h4, _, h5⟩ := dd2
  have r0 : KT H2 [] [] := .nil
  refine d_write I3 (by rw [e]; exact True.intro) hs ⟨o, hq⟩ ⟨by have := length_putK ([] : List (List Key × V)) kk z; rw [sizeLine_eq]; rw [List.length_nil] at this; omega, hd, _, (r0.put kk eb rz).keeps fun c ys ec => ?_, o, es, ep, hq, h2, h3, h4, h5⟩
  rw [upd_ne (ne_of ec e (fun z => nomatch z))]
  exact ec
def dsp1E (fk fv : Env → Rs PyData) : Env → Rs PyData := fun env => (fk env).bind fun k e1 => (fv e1).bind fun d e2 => (Rs.of (dput (.dict [(.none, .none)]) k d) e2).bind fun r e3 => .ok r e3
section
variable {C : Ct} {U Rv U1 U2 : List Nat} {pos : Pos} {k v : Expr} {fk fv : Env → Rs PyData}
theorem de_dsp1 (hu : ∀ z, (C.X z).A.units + 2 < cLine) (hk : DE C U Rv k fk U1 .cl) (hv : DE C U1 Rv v fv U2 .cl) : DE C U Rv (.Dict [some k] [v] pos) (dsp1E fk fv) U2 .fr := by
  obtain ⟨h1, tk, kp, ks⟩ := hk
  obtain ⟨h1', tv, vp, vs⟩ := hv
  refine ⟨fun i hi => h1 i (h1' i hi), tDsp1 tk tv, fun x => pe_dsp1 (hu x) (kp x) (vp x), fun σ H env Fs Q R hw p np => ?_⟩
  have nr : ∀ a, Wr U Rv σ a → a ≠ p := fun a w e => (R.wr w).ne (e ▸ np)
  unfold dsp1E at hw
  rw [wp_bind] at hw
  refine ks σ _ env Fs _ (R.same (same_new np)) (wp_mono hw fun kd e1 k1 y H1 Fs1 Fk p5 => ?_)
  rw [wp_bind] at k1
  refine vs σ H1 e1 Fs1 _ p5.env (wp_mono k1 fun d e2 k2 z H2 Fs2 Fv p6 => ?_)
  rw [wp_bind] at k2
  obtain ⟨r, hr, k3⟩ := wp_of k2
  have T : TPost C U Rv σ (upd H p (.dT [])) Fs U2 e2 H2 Fs2 := p5.t.trans p6.t h1 fun _ z => z
  have hp2 : H2 p = some (.dT []) := T.keep p _ upd_same fun w => nr p w rfl
  have old : ∀ a, ((∃ k, a ∈ Fs k) ∨ upd H p (.dT []) a = none) → (∃ k, a ∈ Fs k) ∨ H a = none := fun a z => z.imp_right (same_new np).free
  have nin : ∀ a, ((∃ k, a ∈ Fs k) ∨ upd H p (.dT []) a = none) → ¬ a = p := fun a z e => by
    rcases z with ⟨j, m⟩ | z
    · exact R.trk m (e ▸ np)
    · rw [e, upd_same] at z
      cases z
  have gv : ∀ a ∈ Fv, (∃ k, a ∈ Fs k) ∨ upd H p (.dT []) a = none := fun a m => by
    rcases p6.fgrow a m with ⟨l, hl⟩ | z
    · exact p5.grow l a hl
    · exact .inr (p5.dom a z)
  have rk : Rep C.K H2 y kd Fk := p5.rep.keep p6.keep (fun a z => p5.env.wr z) (Clean.nowr p5.knd)
  obtain ⟨H3, G', gp, rp, sub, ic, mu, kp3, dm⟩ := dput_rep (.dctT (kvs := []) (.inl hp2) .nil) (.inr (.inr ⟨_, hp2⟩)) List.not_mem_nil rk p6.rep (fun m => nin p (gv p m) rfl) hr
  have sub' : ∀ a ∈ G', a ∈ Fv := fun a m => (sub a m).resolve_left List.not_mem_nil
  have wD : ∀ a, a = p → MutA H2 a := fun a e => e ▸ .inr (.inr ⟨_, hp2⟩)
  have R3 := T.env.keepW kp3 wD (fun j a m e => nin a (T.grow j a m) e) dm fun _ a e => R.dom a (e ▸ np)
  refine ⟨H3, hp2, gp, k3 (.ref p) H3 Fs2 (p :: G') ⟨R3, ?_, fun a z => (same_new np).free (T.dom a (dm a z)), fun j a m => old a (T.grow j a m), rp, fun a m => ?_, ?_, fun _ a e => .inl (by cases e; exact np)⟩⟩
  · refine Keep.trans (w' := fun a => a = p) (fun a o e n => T.keep a o (same_new np a o e) n) kp3 fun a n e => absurd (e ▸ np) n
  · rcases List.mem_cons.mp m with z | z
    · exact .inr (z ▸ np)
    · exact old a (gv a (sub' a z))
  · exact ⟨p, G', rfl, rfl, fun m => nin p (gv p (sub' p m)) rfl, ic, fun j m => nin p (T.grow j p m) rfl, mu, R.dom p np, Clean.sub p6.knd sub'⟩
end
end DV

set_option Elab.async false
set_option linter.all false
set_option maxRecDepth 100000
set_option maxHeartbeats 1000000
namespace DV
open PySem L2 PySem.Spec
open PyProof.Rows hiding St
open PySem.W (dataLe list_sort_data AllAlike Sortable EachIs)
open L2.DX (itemsO)

/-! ### sorted(d.items()), the keys tuples -/
mutual
theorem reads_lt {h : Heap} : ∀ {v : Value} {d : PyData} {as : List Addr}, Reads h v d as → ∀ b ∈ as, b < h.objs.size
  | _, _, _, .none => fun _ m => absurd m List.not_mem_nil
  | _, _, _, .bool b => fun _ m => absurd m List.not_mem_nil
  | _, _, _, .int i t => fun _ m => absurd m List.not_mem_nil
  | _, _, _, .str x t => fun _ m => absurd m List.not_mem_nil
  | _, _, _, .list h1 h2 h3 h4 => fun b m => (List.mem_cons.mp m).elim (fun e => e ▸ Heap.lt_size h1) (readsAll_lt h4 b)
  | _, _, _, .tuple h1 h2 h3 h4 => readsAll_lt h4
  | _, _, _, .dict h1 h2 h3 h4 h5 => fun b m => (List.mem_append.mp m).elim (fun m => (List.mem_cons.mp m).elim (fun e => e ▸ Heap.lt_size h1) (readsAll_lt h4 b)) (readsAll_lt h5 b)
theorem readsAll_lt {h : Heap} : ∀ {vs : List Value} {ds : List PyData} {as : List Addr}, ReadsAll h vs ds as → ∀ b ∈ as, b < h.objs.size
  | _, _, _, .nil => fun _ m => absurd m List.not_mem_nil
  | _, _, _, .cons h1 h2 => fun b m => (List.mem_append.mp m).elim (reads_lt h1 b) (readsAll_lt h2 b)
end
theorem each_reads2 {h h2 : Heap} (k : ∀ b o, h.get? b = some o → h2.get? b = some o) : ∀ {vs : List V} {its : List Value} {ds : List PyData} {as : List Addr}, ReadsAll h its ds as → ds.length = vs.length → EachIs (fun u (b : V × PyData) => ∃ as, Reads h2 u b.2 as ∧ h.objs.size ∉ as) its (vs.zip ds)
  | [], _, [], _, .nil, _ => .nil
  | [], _, _ :: _, _, _, h => by simp at h
  | _ :: _, _, [], _, _, h => by simp at h
  | _ :: _, _, _ :: _, _, .cons r t, e => .cons ⟨_, Reads.keeps k r, fun m => Nat.lt_irrefl _ (reads_lt r _ m)⟩ (each_reads2 k t (by simpa using e))
def itD (kvs : List (List Key × V)) (ds : List PyData) : List PyData := (kvs.zip ds).map fun z => .tuple [keyT z.1.1, z.2]
theorem dpAll_keys {K : PySem.W.Frag} {H : Hp} : ∀ k : List Key, DpAll K H (k.map kV) (k.map keyD)
  | [] => .nil
  | .inl i :: k => .cons (.int i) (dpAll_keys k)
  | .inr x :: k => .cons (.str x) (dpAll_keys k)
theorem dpAll_its {K : PySem.W.Frag} {H : Hp} : ∀ {kvs : List (List Key × V)} {ds : List PyData} {as : List Addr}, DpAll K H (kvs.map (·.2)) ds → as.length = kvs.length → (∀ (j : Nat) (b : Addr) (kv : List Key × V), as[j]? = some b → kvs[j]? = some kv → ∃ q, H b = some (.tup [.ref q, kv.2]) ∧ H q = some (.tup (kv.1.map kV))) → DpAll K H (as.map V.ref) (itD kvs ds)
  | [], _, [], .nil, _, _ => .nil
  | [], _, _ :: _, _, h, _ => by cases h
  | _ :: _, _, [], _, h, _ => by cases h
  | kv :: kvs, _, b :: as, .cons h1 h2, hl, h => by
    obtain ⟨q, e1, e2⟩ := h 0 b kv rfl rfl
    exact .cons (.tup (.inl (.inl e1)) (.cons (.tup (.inl (.inl e2)) (dpAll_keys kv.1)) (.cons h1 .nil))) (dpAll_its h2 (by simpa using hl) fun j c kv' x1 x2 => h (j + 1) c kv' x1 x2)
def rSortItD (K : PySem.W.Frag) : List V → Hp → VK → Prop := fun ws H Q => ∃ (p a : Addr) (kvs : List (List Key × V)) (ds : List PyData), ws = [.ref p] ∧ H p = some (itemsO p a) ∧ H a = some (.dT kvs) ∧ (∀ H1, Same H H1 → DpAll K H1 (kvs.map (·.2)) ds) ∧
  (alikeB (itD kvs ds) && PyData.canLayAll0 (itD kvs ds) && sortable (itD kvs ds)) = true ∧ PyData.depthAll (itD kvs ds) ≤ 60 ∧
  ∀ (H1 : Hp) (as : List Addr), Same H H1 → as.length = kvs.length → (∀ (j : Nat) (b : Addr) (kv : List Key × V), as[j]? = some b → kvs[j]? = some kv → ∃ q, H1 b = some (.tup [.ref q, kv.2]) ∧ H1 q = some (.tup (kv.1.map kV))) →
  ∀ (l : List (V × PyData)) (p' : Addr), l.Perm ((as.map V.ref).zip (itD kvs ds)) → l.map (·.2) = sortL (itD kvs ds) → H1 p' = none → Q (.ref p') (upd H1 p' (.lst (l.map (·.1))))
theorem cr_sortItD {X : Cx} (hc : X.calm = true) (hu : X.A.units + 65 < cLine) : CallR X (.builtin "sorted") (rSortItD X.K) := by
  intro pins s σ H ws us Q I rv h
  obtain ⟨p, a, kvs, ds, rfl, hp, ha, hdp, hb, h60, q⟩ := h
  rw [Vals.ref1 rv]
  rw [Bool.and_eq_true, Bool.and_eq_true] at hb
  have view : s.heap.IsItemsView p a := (show ObjOk X.prog X.w H s.heap p (itemsO p a) from I.hok p _ hp).1
  obtain ⟨z, hd, xs', rel, o, es, ep, ho, hx, hdat, hes, his, hn⟩ := dt_of I.hok ha
  have l1 : kvs.length = xs'.length := Paired.length rel
  have l2 : es.size = xs'.length := size_of_entries hes
  refine DT.sortedI (es := es) (ep := ep) (I.ok.hd hc) view ⟨o, ho, hx, hdat⟩ (by omega) fun h' tk as hk hlt hl hG => ?_
  have lak : as.length = kvs.length := by omega
  have nd : as.Nodup := List.Pairwise.imp (fun h => Nat.ne_of_lt h) hG.rise
  have pr : ∀ (j : Nat) (b : Addr), as[j]? = some b → ∃ (e : List Key × V) (kq : Addr) (u : Value), kvs[j]? = some e ∧ H kq = some (.tup (e.1.map kV)) ∧ RelV e.2 u ∧ h'.get? b = some { cls := .type "tuple", data := .seq #[Value.ref kq, u] } := by
    intro j b hj
    obtain ⟨en, he, hg⟩ := hG.pairs j b hj
    rw [entry_at hes j] at he
    cases hxj : xs'[j]? with
    | none =>
      rw [hxj] at he
      exact nomatch (show (none : Option DictEntry) = some en from he)
    | some x =>
      rw [hxj] at he
      have een : entryOfKey (tupleKind (mixKind X.prog X.w)) x = en := Option.some.inj he
      obtain ⟨e0, he0, r1, r2, r3⟩ := L2.DX.pget rel hxj
      exact ⟨e0, x.2.1, x.2.2, he0, r2, r3, by rw [hg, ← een]; rfl⟩
  have I1 : Inv X pins σ H { s with heap := h', toks := tk } := I.kept (t' := tk) hk
  obtain ⟨H1, I2, g, qt⟩ := L2.DX.takeT (P := fun b vs => ∃ (j : Nat) (e : List Key × V) (kq : Addr), as[j]? = some b ∧ kvs[j]? = some e ∧ vs = [.ref kq, e.2] ∧ H kq = some (.tup (e.1.map kV))) I as H I1 nd fun b hb => by
    obtain ⟨j, hj⟩ := List.mem_iff_getElem?.mp hb
    obtain ⟨e, kq, u, he, hkq, ru, hg⟩ := pr j b hj
    have hbl : s.heap.objs.size ≤ b := Nat.le_of_lt (hG.above b hb)
    exact ⟨hbl, I.hok.fresh hbl, [.ref kq, e.2], ⟨j, e, kq, hj, he, rfl, hkq⟩, fun H3 => ⟨(by rw [sizeLine_eq]; show 2 ≤ 16777216; omega), [Value.ref kq, u], .cons rfl (.cons ru .nil), ⟨_, hg, rfl, 0, rfl⟩⟩⟩
  have lay : ∀ (j : Nat) (b : Addr) (kv : List Key × V), as[j]? = some b → kvs[j]? = some kv → ∃ q, H1 b = some (.tup [.ref q, kv.2]) ∧ H1 q = some (.tup (kv.1.map kV)) := fun j b kv hj hkv => by
    obtain ⟨vs, ⟨i, e, kq, i1, i2, ev, hkq⟩, hH⟩ := qt b (List.mem_of_getElem? hj)
    have eij : i = j := (List.getElem?_inj (List.getElem?_eq_some_iff.mp i1).1 nd).mp (i1.trans hj.symm)
    subst eij
    cases Option.some.inj (i2.symm.trans hkv)
    rw [ev] at hH
    exact ⟨kq, hH, g _ _ hkq⟩
  have dp : DpAll X.K H1 (as.map V.ref) (itD kvs ds) := dpAll_its (hdp H1 g) lak lay
  have rvs : Vals (as.map V.ref) (as.map Value.ref) := vals_maps (fun b : Addr => V.ref b) (fun b => Value.ref b) as fun _ _ => rfl
  obtain ⟨ad, hr⟩ := Dp.readsAll I2 _ _ _ dp rvs
  have ln : (as.map Value.ref).length = (itD kvs ds).length := SeqAt.ReadsAll.length _ _ ad hr
  rw [List.length_map] at ln
  have ldv : (itD kvs ds).length = (as.map V.ref).length := by rw [List.length_map]; exact ln.symm
  have hm : ((as.map V.ref).zip (itD kvs ds)).map (fun b : V × PyData => b.2) = itD kvs ds := zip_snd ldv.symm
  have hob : (h'.push { cls := .type "list", data := .seq (as.map Value.ref).toArray }).get? h'.objs.size = some (seqObj "list" (as.map Value.ref).toArray 0) := Heap.get?_push_size _ rfl
  have ka : ∀ b o, h'.get? b = some o → (h'.push { cls := .type "list", data := .seq (as.map Value.ref).toArray }).get? b = some o := fun b o e => Heap.get?_push_of_some _ e
  have ne0 : ∀ b o, h'.get? b = some o → b ≠ h'.objs.size := fun b o e => Nat.ne_of_lt (Heap.lt_size e)
  generalize h'.push { cls := .type "list", data := .seq (as.map Value.ref).toArray } = h2 at hob ka ⊢
  have zl : as.length ≤ sizeLine := by omega
  refine list_sort_data (s := { s with heap := h2, toks := tk }) (R := fun u (b : V × PyData) => RelV b.1 u) (enc := fun b : V × PyData => b.2) (bs := (as.map V.ref).zip (itD kvs ds)) hob (each_rel rvs ldv) (each_reads2 ka hr ldv) (by rw [hm]; exact alike_of hb.1.1) (by rw [hm]; exact sortable_of hb.2) (by rw [List.length_zip, List.length_map]; omega) (fun b hbm => ?_) fun out hlo ho => ?_
  · have := depth_le (List.of_mem_zip hbm).2
    show X.A.units + 1 + 1 + _ < cLine
    omega
  · obtain ⟨eF, heF⟩ := PyProof.Rows.sortedHeap_at (vs := as.map Value.ref) (out := out.toArray) hob
    have kF : ∀ b o, h'.get? b = some o → (sortedHeap h2 h'.objs.size (as.map Value.ref) out.toArray).get? b = some o := fun b o e => (PyProof.Rows.sortedHeap_old (ne0 b o e) (Heap.lt_size (ka b o e))).trans (ka b o e)
    have hpm : (((as.map V.ref).zip (itD kvs ds)).mergeSort (dataLe false fun b : V × PyData => b.2)).Perm ((as.map V.ref).zip (itD kvs ds)) := List.mergeSort_perm _ _
    have hv := vals_each ho
    refine ⟨.ref h'.objs.size, upd H1 h'.objs.size (.lst ((((as.map V.ref).zip (itD kvs ds)).mergeSort (dataLe false fun b : V × PyData => b.2)).map (·.1))), I2.laid (t' := tk) kF (Nat.le_refl _) ⟨?_, out, eF, hv, heF⟩, rfl, q H1 as g lak lay _ _ hpm ?_ (I2.hok.fresh (Nat.le_refl _))⟩
    · rw [List.length_map, hpm.length_eq, List.length_zip, List.length_map]
      omega
    · unfold sortL
      have mm := List.map_mergeSort (f := fun b : V × PyData => b.2) (l := (as.map V.ref).zip (itD kvs ds)) (r := dataLe false fun b : V × PyData => b.2) (s := dataLe false id) fun a _ b _ => rfl
      rw [hm] at mm
      exact mm
end DV

set_option Elab.async false
set_option linter.all false
set_option maxRecDepth 100000
set_option maxHeartbeats 1000000
namespace DV
open PySem L2 PySem.Spec
open PyProof.Rows hiding St
open L2.DX (itemsO rItemsT mt_itemsT)

/-! ### sorted(d.items()) as data, d an own dict whose keys are tuples -/
def pairD (z : PyData × PyData) : PyData := .tuple [z.1, z.2]
def sitF : PyData → Option PyData
  | .dict ((.none, .none) :: kvs) => if (alikeB (kvs.map pairD) && PyData.canLayAll0 (kvs.map pairD) && sortable (kvs.map pairD)) = true ∧ PyData.depthAll (kvs.map pairD) ≤ 60 ∧ PyData.canLayAll0 (kvs.map (·.2)) = true then some (.list (sortL (kvs.map pairD))) else none
  | _ => none
theorem itD_eq : ∀ (kvs : List (List Key × V)) (ds : List PyData), itD kvs ds = (((kvs.map fun p => keyT p.1).zip ds).map pairD)
  | [], _ => rfl
  | _ :: _, [] => rfl
  | kv :: kvs, d :: ds => by
    show PyData.tuple [keyT kv.1, d] :: itD kvs ds = _
    rw [itD_eq kvs ds]
    rfl
theorem repL_keys {K : PySem.W.Frag} {H : Hp} : ∀ k : List Key, RepL K H (k.map kV) (k.map keyD) []
  | [] => .nil
  | .inl i :: k => .cons (F := []) (.int i) (repL_keys k)
  | .inr x :: k => .cons (F := []) (.str x) (repL_keys k)
theorem repL_its {K : PySem.W.Frag} {H : Hp} : ∀ {kvs : List (List Key × V)} {ds : List PyData} {as F : List Addr}, RepL K H (kvs.map (·.2)) ds F → as.length = kvs.length → (∀ (j : Nat) (b : Addr) (kv : List Key × V), as[j]? = some b → kvs[j]? = some kv → ∃ q, H b = some (.tup [.ref q, kv.2]) ∧ H q = some (.tup (kv.1.map kV))) → ∃ G, RepL K H (as.map V.ref) (itD kvs ds) G ∧ ∀ a ∈ G, a ∈ F
  | [], _, [], _, .nil, _, _ => ⟨[], .nil, fun _ m => m⟩
  | [], _, _ :: _, _, _, h, _ => by cases h
  | _ :: _, _, [], _, _, h, _ => by cases h
  | kv :: kvs, _, b :: as, _, .cons (F := F0) (G := G0) h1 h2, hl, h => by
    obtain ⟨q, e1, e2⟩ := h 0 b kv rfl rfl
    obtain ⟨G, r, s⟩ := repL_its h2 (by simpa using hl) fun j c kv' x1 x2 => h (j + 1) c kv' x1 x2
    refine ⟨_ ++ G, .cons (.tup e1 (.cons (.tup e2 (repL_keys kv.1)) (.cons h1 .nil))) r, fun a m => ?_⟩
    rcases List.mem_append.mp m with m | m
    · rw [List.nil_append, List.append_nil] at m
      exact List.mem_append_left _ m
    · exact List.mem_append_right _ (s a m)
section
variable {C : Ct} {U Rv U1 : List Nat} {o : Expr} {fo : Env → Rs PyData} {x : Str} {p apos cpos pos : Pos} {i : Nat}
theorem de_sit (hc : ∀ z, (C.X z).calm = true) (hu : ∀ z, (C.X z).A.units + 65 < cLine) (hg : ∀ z, Gl (C.X z) "sorted") (hm : ∀ z, (C.X z).mg "sorted" = none) (ho : DE C U Rv o fo U1 (.br i))
    (hbase : ∀ z, attributeBase o "items" (C.X z).env (eval o (C.X z).env) = eval o (C.X z).env := by intro _; rfl) (hline : (apos.endLine == cpos.line) = true := by rfl) (he : ∀ z, starEach [.Call (.Attribute o "items" apos) [] [] cpos] (C.X z).env = (false, eval (.Call (.Attribute o "items" apos) [] [] cpos) (C.X z).env) :: starEach [] (C.X z).env := by intro _; rfl) (hpl : ∀ z, (backTo pos (starEach [] (C.X z).env)).any (·.1) = false := by intro _; rfl) :
    DE C U Rv (.Call (.Name "sorted" p) [.Call (.Attribute o "items" apos) [] [] cpos] [] pos) (un1 sitF fo) U1 .fr := by
  obtain ⟨h1, t, tp, ts⟩ := ho
  refine ⟨h1, tCB (rSortItD C.K) (tCons (tBM0 C.K "dict" rItemsT t) tNil), fun z => ?_, fun σ H env Fs Q R hw => ?_⟩
  · have q := pe_bm0 PySem.F.plainAttrs_dict PySem.F.slot_dict_items PySem.F.type_dict_items mt_itemsT (tp z) (hbase z) hline
    rw [C.hK z] at q
    exact pe_callB (C.hK z ▸ cr_sortItD (hc z) (hu z)) (hg z) (hm z) PyProof.Rows.boot_sorted (pa_cons q pa_nil (he z)) (by decide) (by decide) (he z) (hpl z)
  · unfold un1 at hw
    rw [wp_bind] at hw
    refine ts σ H env Fs _ R (wp_mono hw fun d e1 k v H1 Fs1 F pp => ?_)
    obtain ⟨d', hd', k⟩ := wp_of k
    obtain ⟨hi, ev, ic, cl, nF⟩ := pp.knd
    have r := pp.rep
    unfold sitF at hd'
    split at hd'
    · rename_i kvs0
      split at hd'
      · rename_i c
        cases hd'
        generalize hdd : PyData.dict ((.none, .none) :: kvs0) = dd at r
        cases r with
        | @dctK a kvs ds F0 rd l =>
          simp only [PyData.dict.injEq] at hdd
          exact (zip_key keyD_ne hdd.symm).elim
        | @dctT a kvs ds F0 rd l =>
          simp only [PyData.dict.injEq, List.cons.injEq, true_and] at hdd
          subst hdd
          obtain ⟨_, _, _, _, _, _, _, mu, _⟩ := pp.env.root hi ev
          have rd : H1 a = some (.dT kvs) := by
            rcases rd with q | ⟨o, q⟩
            · exact q
            · rcases mu with ⟨_, z⟩ | ⟨_, z⟩ | ⟨_, z⟩ <;> rw [q] at z <;> cases z
          have ll := l.length
          rw [List.length_map] at ll
          have c3 : PyData.canLayAll0 ds = true := by
            have := c.2.2
            rwa [zip_snd (by rw [List.length_map]; exact ll)] at this
          rw [← itD_eq] at c k
          refine ⟨.inr (.inr (.inl ⟨rfl, .inr ⟨_, rd⟩⟩)), a, kvs, rfl, rfl, rd, fun pv npv => ⟨pv, a, kvs, ds, rfl, upd_same, ?_, fun H2 s2 => ((l.same (same_new npv)).same s2).dp c3, c.1, c.2.1, fun H2 as s2 hl lay lst p' hp hm np => ?_⟩⟩
          · rw [upd_ne fun z => by rw [z, npv] at rd; cases rd]
            exact rd
          · obtain ⟨G, rr, sub⟩ := repL_its ((l.same (same_new npv)).same s2) hl lay
            obtain ⟨G', q, s⟩ := rr.pick (l := lst) fun z m => hp.mem_iff.mp m
            rw [hm] at q
            have sm : Same H1 H2 := fun b u e => s2 b u (same_new npv b u e)
            have rl := res_lst (P := fun b => b ∈ F0) (fr := true) np q fun b m => .inl (sub b (s b m))
            exact k _ _ Fs1 _ (post_of_res (fr := true) (P := fun b => b ∈ F0) pp.t ⟨fun b u e => rl.same b u (sm b u e), rl.rep, fun b m => (rl.frm b m).imp_right sm.free, fun e => by
              obtain ⟨b, G, z1, z2, z3, z4, z5, z6⟩ := rl.new e
              exact ⟨b, G, z1, z2, z3, z4, sm.free z5, z6⟩⟩ (fun j hj b eb m => cl j hj b eb m) fun b m => pp.fgrow b (List.mem_cons_of_mem _ m))
        | con _ => cases hdd
        | _ => cases hdd
      · cases hd'
    · cases hd'
end
end DV

set_option Elab.async false
set_option linter.all false
set_option maxRecDepth 100000
set_option maxHeartbeats 2000000
namespace DV
open PySem L2 PySem.Spec
open PyProof.Rows hiding St

/-! ### the end: the law's own call -/
theorem cx_never {P : Program} {w : World} {H : Hp} {t t' : Shared} {e : Value} (h : L2.CX P w [] H t (fun _ _ _ => False) e t') : False := by
  obtain ⟨_, _, _, _, _, _, _, _, _, _, _, _, z⟩ := h
  exact z
section
variable {P : Program} {w : World} {K : PySem.W.Frag} {g bl : Str → Option Value} {law sc : Addr} {fn : FuncData} {x : Str} {sp : Sp} {t : Shared} {us : List Value} {zs : List Int} {k : Nat}
abbrev EndIs (t : Shared) (r : Result) (t' : Shared) : Prop := r = .ok (.ret (.bool true)) ∧ OldK t.heap t'.heap ∧ t'.os = t.os ∧ AllBare t'.gens
/-- with an abstract heap at which at most the script is followed -/
theorem end_at {H : Hp} (kin : K.In t.heap) (gn : t.heap.Ns mainGlobals g) (bn : t.heap.Ns builtinsNs bl) (bb : ∀ y : Str, y ≠ "__name__" → bl y = bootBuiltins y) (nl : t.heap.NoLimit) (noG : t.gens = #[])
    (lst : t.heap.get? sc = some { cls := .type "list", data := .seq us.toArray }) (room : Room k callerA)
    (F : ∀ base : Heap, K.In base → base.Ns mainGlobals g → FnG P w K g base k law fn [x] sp) (bind : ∀ (s : Shared) (u : Value), BindsTo s fn ⟨[u], []⟩ [(x, u)])
    (only : Only H) (prom : sp [.ref sc] H (fun v _ => v = .bl true) fun _ _ _ => False) (ok : HOk P w H t.heap) (one : ∀ b, H b ≠ none → b = sc) (out : H sc ≠ none → K.lookup sc = none) :
    codeAny (model P w) callerA (.call (.ref law) ⟨[.ref sc], []⟩) (EndIs t) t := by
  have hid : ∀ {b : Addr} {o : Obj}, t.heap.get? b = some o → H b = none → (hidT t.heap H).get? b = some o := fun h n => hidT_get h n
  have free : ∀ {b : Addr} {o : Obj} {es : Array DictEntry} {ep : Nat}, t.heap.get? b = some o → o.data = .dict es ep → H b = none := by
    intro b o es ep h d
    refine Classical.byContradiction fun z => ?_
    obtain rfl := one b z
    rw [lst] at h
    cases h
    cases (d : Data.seq us.toArray _ = Data.dict es ep)
  have ns : ∀ {b : Addr} {m : Str → Option Value}, t.heap.Ns b m → (hidT t.heap H).Ns b m := by
    rintro b m ⟨o, es, ep, h, d, r⟩
    exact ⟨o, es, ep, hid h (free h d), d, r⟩
  have kb : K.In (hidT t.heap H) := by
    intro b o h
    refine hid (kin b o h) (Classical.byContradiction fun z => ?_)
    obtain rfl := one b z
    rw [out z] at h
    cases h
  have md : Mod K g (hidT t.heap H) := by
    refine ⟨kb, ns gn, ⟨bl, ns bn, bb⟩, ?_⟩
    obtain ⟨mc, h1, h2⟩ := nl
    exact ⟨mc, ns h1, h2⟩
  have env : Env0 P w K g (hidT t.heap H) callerA [] t H := by
    refine ⟨rfl, md, fun b o h => of_hidT h, Nat.le_of_eq (hidT_size _ _), trivial, ?_, ok, .of_eq noG⟩
    intro b hb
    cases (hb : b ∈ ([] : List Addr))
  have run := (F _ kb (ns gn)).run callerA [] t H ⟨[.ref sc], []⟩ [.ref sc] [.ref sc] (fun v _ => v = .bl true) (fun _ _ _ => False) room rfl env (bind t (.ref sc)) (.cons rfl .nil) prom
  refine codeAny_mono run fun r t' q => ?_
  cases r with
  | error e => exact (cx_never q).elim
  | ok fl =>
    cases fl with
    | ret u =>
      obtain ⟨v, H', os, bare, un, ok', r', rfl⟩ := q
      obtain rfl : u = Value.bool true := r'
      refine ⟨rfl, OldK.of_keep fun b o h => ?_, os, bare⟩
      by_cases z : H b = none
      · refine un.keep b o h z (fun m => ?_) (by simp)
        cases (m : b ∈ ([] : List Addr))
      · rcases only b with y | ⟨ob, xs, y⟩
        · exact absurd y z
        · have y2 := un.frzs b ob _ y
          obtain ⟨g1, _⟩ := ok b _ y
          obtain ⟨g2, _⟩ := ok' b _ y2
          rw [h] at g1
          cases g1
          exact g2
    | next => exact (q : False).elim
    | brk => exact (q : False).elim
    | cont => exact (q : False).elim
theorem law_end (kin : K.In t.heap) (gn : t.heap.Ns mainGlobals g) (bn : t.heap.Ns builtinsNs bl) (bb : ∀ y : Str, y ≠ "__name__" → bl y = bootBuiltins y) (nl : t.heap.NoLimit) (noG : t.gens = #[])
    (lst : t.heap.get? sc = some { cls := .type "list", data := .seq us.toArray }) (are : IntsAre us zs) (few : zs.length ≤ sizeLine) (room : Room k callerA)
    (F : ∀ base : Heap, K.In base → base.Ns mainGlobals g → FnG P w K g base k law fn [x] sp) (bind : ∀ (s : Shared) (u : Value), BindsTo s fn ⟨[u], []⟩ [(x, u)])
    (prom : ∀ H : Hp, Only H → SqL K H sc (zs.map V.int) → sp [.ref sc] H (fun v _ => v = .bl true) fun _ _ _ => False) :
    codeAny (model P w) callerA (.call (.ref law) ⟨[.ref sc], []⟩) (EndIs t) t := by
  have vals := vals_ints are
  have same := are.length
  cases own : K.lookup sc with
  | some o =>
    have h := kin sc o own
    rw [lst] at h
    cases h
    have no : Only fun _ => none := fun _ => .inl rfl
    refine end_at kin gn bn bb nl noG lst room F bind no (prom _ no ?_) (fun b u z => nomatch z) (fun b z => absurd rfl z) fun z => absurd rfl z
    exact .inr ⟨_, us.toArray, _, own, rfl, rfl, rfl, by rw [List.size_toArray, same]; exact few, by simpa using vals⟩
  | none =>
    obtain ⟨H, hH⟩ : ∃ H : Hp, H = fun b => if b = sc then some (.frz { cls := .type "list", data := .seq us.toArray } (.lst (zs.map V.int))) else none := ⟨_, rfl⟩
    have at1 : H sc = some (.frz { cls := .type "list", data := .seq us.toArray } (.lst (zs.map V.int))) := by rw [hH]; exact if_pos rfl
    have at2 : ∀ b, b ≠ sc → H b = none := fun b n => by rw [hH]; exact if_neg n
    have on : Only H := fun b => by
      by_cases e : b = sc
      · exact .inr ⟨_, _, e ▸ at1⟩
      · exact .inl (at2 b e)
    refine end_at kin gn bn bb nl noG lst room F bind on (prom H on (.inl (.inr ⟨_, at1⟩))) (fun b u z => ?_) (fun b z => Classical.byContradiction fun n => z (at2 b n)) fun _ => own
    by_cases e : b = sc
    · subst e
      rw [at1] at z
      cases z
      exact ⟨lst, by rw [List.length_map]; exact few, us, _, vals, lst⟩
    · rw [at2 b e] at z
      cases z
end
/-- the walk of a law whose promise is kept as FnG says -/
theorem walk_dv {l : PySem.W.OpenLaw} {n k : Nat} {q : Program} {loose : List Str} {XP : (Str → Option Value) → Heap → Prop} {YP : World → Heap → Prop} {d : DefRec} {x : Str} {f : List PyData → Rs PyData}
    (most : l.most = some n) (few : n ≤ sizeLine) (nodef : d.params.defaults = []) (room : Room k callerA)
    (F : ∀ (w : World) (g : Str → Option Value) (law : Addr) (h : Heap), YP w h → h.Ns mainGlobals g → g d.name = some (.ref law) →
      ∃ (K : PySem.W.Frag) (fn : FuncData), K.In h ∧ (∀ (s : Shared) (u : Value), BindsTo s fn ⟨[u], []⟩ [(x, u)]) ∧ ∀ base : Heap, K.In base → base.Ns mainGlobals g → FnG l.prog w K g base k law fn [x] (spD K 1 [] .cl f))
    (plain : ∀ zs : List Int, zs.length ≤ n → ∃ e, f [.list (zs.map PyData.int)] = .ok (.bool true) e) :
    PySem.W.WalkO q loose XP YP l.row.toRowW d [] (fun f vs => PySem.call f vs) := by
  refine Att.attach_call most nodef ?_
  intro w t0 t g bl law ol pm cd doc sc us zs G Y h1 h2 h3 h4 h5 h6 h7 h8
  obtain ⟨K, fn, kin, bind, hF⟩ := F w g law _ Y G.T.g h4
  refine law_end kin G.T.g G.T.b G.T.builtins G.T.nolimit h8 h5 h6 (Nat.le_trans h7 few) room hF bind fun H on sq => ?_
  obtain ⟨e, he⟩ := plain zs h7
  have rep : ∃ Fa, Rep K H (.ref sc) (.list (zs.map PyData.int)) Fa := by
    rcases sq with (e | ⟨o, e⟩) | e
    · exact ⟨_, .lst e (repL_ints zs)⟩
    · exact ⟨_, .frz e⟩
    · exact ⟨_, .lsc e⟩
  obtain ⟨Fa, rep⟩ := rep
  refine ⟨[.list (zs.map PyData.int)], [Fa], rfl, ⟨.cons rep .nil, fun p hp => nomatch hp⟩, ?_⟩
  rw [he]
  intro v H' F' Fm cp
  have r := cp.rep
  cases r
  rfl
end DV

set_option Elab.async false
set_option linter.all false
set_option maxRecDepth 100000
set_option maxHeartbeats 2000000
namespace DV
open PySem L2 PySem.Spec
open PyProof.Rows hiding St

/-! ### a def's surroundings from the module's facts -/
def isFree (fs : List He.Fa) (x : Str) : Bool := fs.any fun
  | .free y => decide (y = x)
  | _ => false
def isGlo (fs : List He.Fa) (x : Str) : Bool := fs.any fun
  | .glo y => decide (y = x)
  | _ => false
section
variable {P : Program} {w : World} {K : PySem.W.Frag} {mg : Str → Option Value} {base : Heap} {fs : List He.Fa} {fn : List He.DefD}
theorem free_of (c : He.SaysD fs fn K) (X : K.In base) (G : base.Ns mainGlobals mg) {x : Str} (h : isFree fs x = true) : mg x = none := by
  obtain ⟨u, hu, e⟩ := List.any_eq_true.mp h
  cases u with
  | free y =>
    obtain rfl : y = x := of_decide_eq_true e
    exact He.free_ok X G (c.facts hu)
  | _ => cases e
theorem glo_of (c : He.SaysD fs fn K) (X : K.In base) (G : base.Ns mainGlobals mg) {x : Str} (h : isGlo fs x = true) : mg x = some (.ref (He.ga K x)) := by
  obtain ⟨u, hu, e⟩ := List.any_eq_true.mp h
  cases u with
  | glo y =>
    obtain rfl : y = x := of_decide_eq_true e
    exact He.glo_ok X G (c.facts hu)
  | _ => cases e
theorem frees_of (c : He.SaysD fs fn K) (X : K.In base) (G : base.Ns mainGlobals mg) {bs : List Str} (h : bs.all (isFree fs) = true) (j : Nat) (x : Str) (e : bs[j]? = some x) : mg x = none :=
  free_of c X G (List.all_eq_true.mp h x (List.mem_of_getElem? e))
variable {N : List Str} {qual : Str} {sc : Scope} {f : Addr} {cdv : Value} {A : Around} {outer : List PySem.Env} {s : Shared} {H : Hp} {E : XK} {M : List Nat}
theorem cal_of {x : Str} {n j k : Nat} {M' : List Nat} {rk : Kd} {g : List PyData → Rs PyData} {fa : Addr} {fd : FuncData} {ps : List Str} (hr : Room k (A.deeper (envOfC qual sc s.heap.objs.size f cdv))) (hg : (A.deeper (envOfC qual sc s.heap.objs.size f cdv)).guards = some [])
    (o : FnG P w K mg base j fa fd ps (spD K n M' rk g)) (hm : mg x = some (.ref fa)) (kp : PySem.W.keepIn K (.ref fa) = true) (b : Binds K fd ps []) (hj : j ≤ k) (lt : ∀ p ∈ M', p < n) : CalD (bodyC P w K mg base N qual sc f cdv A outer s H E M) x n n [] M' rk g :=
  ⟨rfl, lt, [], fun _ => .nil, fun _ => ⟨j, fa, fd, ps, [], o, ⟨hr.mono hj, hg⟩, hm, kp, b, .nil⟩⟩
theorem cal_dfl {x : Str} {n m j k : Nat} {M' : List Nat} {rk : Kd} {g : List PyData → Rs PyData} {fa : Addr} {fd : FuncData} {ps : List Str} {dvs : List V} {dfl : List PyData} (hr : Room k (A.deeper (envOfC qual sc s.heap.objs.size f cdv))) (hg : (A.deeper (envOfC qual sc s.heap.objs.size f cdv)).guards = some [])
    (o : FnG P w K mg base j fa fd ps (spD K n M' rk g)) (hm : mg x = some (.ref fa)) (kp : PySem.W.keepIn K (.ref fa) = true) (b : ∃ ds, Vals dvs ds ∧ Binds K fd ps ds) (hj : j ≤ k) (lt : ∀ p ∈ M', p < m) (nm : n = m + dfl.length) (rp : ∀ H, RepE K H dvs dfl (dfl.map fun _ => [])) : CalD (bodyC P w K mg base N qual sc f cdv A outer s H E M) x n m dfl M' rk g := by
  obtain ⟨ds, b1, b2⟩ := b
  exact ⟨nm, lt, dvs, rp, fun _ => ⟨j, fa, fd, ps, ds, o, ⟨hr.mono hj, hg⟩, hm, kp, b2, b1⟩⟩
theorem calk_of {x : Str} {n m j k : Nat} {ks : List Str} {π : List Nat} {rk : Kd} {g : List PyData → Rs PyData} {fa : Addr} {fd : FuncData} {ps : List Str} (hr : Room k (A.deeper (envOfC qual sc s.heap.objs.size f cdv))) (hg : (A.deeper (envOfC qual sc s.heap.objs.size f cdv)).guards = some [])
    (o : FnG P w K mg base j fa fd ps (spD K n [] rk g)) (hm : mg x = some (.ref fa)) (kp : PySem.W.keepIn K (.ref fa) = true) (b : ∀ (s : Shared) (us ws : List Value), K.In s.heap → us.length = m → ws.length = ks.length → BindsTo s fd ⟨us, ks.zip ws⟩ (ps.zip (permG π (us ++ ws))))
    (hj : j ≤ k) (nm : π.length = n) (lt : ∀ i ∈ π, i < m + ks.length) : CalK (bodyC P w K mg base N qual sc f cdv A outer s H E M) x n m ks π rk g :=
  ⟨nm, lt, fun _ => ⟨j, fa, fd, ps, o, ⟨hr.mono hj, hg⟩, hm, kp, b⟩⟩
theorem con_of {x : Str} {ns : List Int} (hm : mg x = some (.ref (He.ga K x))) (h : He.tupB K x (ns.map He.Dv.int) = true) : ConD (bodyC P w K mg base N qual sc f cdv A outer s H E M) x ns := by
  refine ⟨_, fun _ => hm, fun H' => ?_⟩
  have t := He.tupB_ok h H'
  rw [List.map_map] at t
  exact t
theorem keyw_of {x q : Str} {params : Arguments} {body : List Stmt} {scope : Scope} {kws : List (Str × V)} {fa : Addr} {fd : FuncData} {ps ks : List Str} {π : List Nat} {m : Nat} (D : FunD K x q params body scope [] kws fa fd)
    (h : ∀ (kV doc pm : Value) (an : Option Addr) (cdv ct : Value) (us ws : List Value), us.length = m → ws.length = ks.length → bindArgs (PySem.W.fnOf x q params body scope .none kV doc pm an cdv ct) ⟨us, ks.zip ws⟩ = pure (ps.zip (permG π (us ++ ws)))) :
    ∀ (s : Shared) (us ws : List Value), K.In s.heap → us.length = m → ws.length = ks.length → BindsTo s fd ⟨us, ks.zip ws⟩ (ps.zip (permG π (us ++ ws))) := by
  intro s us ws _ h1 h2
  obtain ⟨oc, od, dV, kV, doc, pm, an, cdv, ct, osl, rfl, _, _, hD, _⟩ := D.ex
  rcases hD with ⟨_, rfl⟩ | ⟨e, _⟩
  · exact .of_eq (h kV doc pm an cdv ct us ws h1 h2)
  · exact absurd rfl e
end
end DV

set_option Elab.async false
set_option linter.all false
set_option maxRecDepth 100000
set_option maxHeartbeats 1000000
namespace DV
open PySem L2 PySem.Spec
open PyProof.Rows hiding St
def top (i : Nat) : Stmt := PySem.Challenge.pw_wholecurves_k28_whole_traces_at_matrices.main.body.getD i (.Pass ⟨0, 0, 0, 0⟩)
local macro_rules | `(tactic| walk_at "ktgl") => `(tactic| (intro ds env env' h; simp only [consG, nilG] at h; (repeat' (first | (split at h) | (simp only [Option.bind_eq_some_iff] at h; obtain ⟨_, _, h⟩ := h))) <;> first | rfl | simp_all))
/-! ### is_integer -/
abbrev s_is_integer : Stmt := top 6
def N_is_integer : List Str := ["value"]
def g_is_integer : List Str := ["isinstance", "int", "bool"]
def b_is_integer : List Str := ["isinstance", "int", "bool"]
def F_is_integer : Env → Rs Fl := retS (andV (un1 (isF "int") (varE 0)) (notV (un1 (isF "bool") (varE 0))))
def f_is_integer : List PyData → Rs PyData := runF 1 false F_is_integer
theorem h_is_integer : chkN N_is_integer (defScope s_is_integer) (fun _ => true) [true] [false] g_is_integer = true := by decide +kernel
theorem d_is_integer {C : Ct} (F : CtF C N_is_integer (defScope s_is_integer) (fun _ => true) [true] [false] g_is_integer) (W : CtW C b_is_integer []) (P : CtP C) : DSs C [] [] (defBody s_is_integer) F_is_integer [] ⟨[], [], [], .cl⟩ :=
  (dss_one (ds_ret (U2 := []) (de_and (isi_ W F 0 0 1 1 rfl rfl rfl rfl PyProof.Rows.boot_int (v_ F 0 rfl rfl (by decide))) (de_one (de_not (isi_ W F 0 0 2 2 rfl rfl rfl rfl PyProof.Rows.boot_bool (v_ F 0 rfl rfl (by decide)))))) (by decide) (fun _ _ _ _ _ _ _ h q => kd_cl h q)))
/-! ### is_natural -/
abbrev s_is_natural : Stmt := top 7
def N_is_natural : List Str := ["value", "least"]
def g_is_natural : List Str := ["is_integer"]
def b_is_natural : List Str := []
def F_is_natural : Env → Rs Fl := retS (andV (callE f_is_integer [] (consA (varE 0) nilA)) (bin2 geD (varE 0) (varE 1)))
def f_is_natural : List PyData → Rs PyData := runF 2 false F_is_natural
theorem h_is_natural : chkN N_is_natural (defScope s_is_natural) (fun _ => true) [true, true] [false, false] g_is_natural = true := by decide +kernel
theorem d_is_natural {C : Ct} (F : CtF C N_is_natural (defScope s_is_natural) (fun _ => true) [true, true] [false, false] g_is_natural) (W : CtW C b_is_natural []) (P : CtP C) (c_is_integer : CalD C "is_integer" 1 1 [] [] .cl f_is_integer) : DSs C [] [] (defBody s_is_natural) F_is_natural [] ⟨[], [], [], .cl⟩ :=
  (dss_one (ds_ret (U2 := []) (de_and (de_call c_is_integer (F.gloP (i := 0) rfl).1 (F.gloP (i := 0) rfl).2.1 (da_cons (Rv2 := []) (v_ F 0 rfl rfl (by decide)) da_nil (fun _ z => z) (fun _ z => nomatch z)) rfl rfl (fun _ z => nomatch z)) (de_one (de_cmp (fr := false) (Rv2 := []) (o_ge C) ok_cmpI (v_ F 0 rfl rfl (by decide)) (v_ F 1 rfl rfl (by decide)) (fun _ z => z) (fun _ z => nomatch z) rfl))) (by decide) (fun _ _ _ _ _ _ _ h q => kd_cl h q)))
/-! ### are_integers -/
abbrev s_are_integers : Stmt := top 8
def N_are_integers : List Str := ["value", "size", "part"]
def g_are_integers : List Str := ["isinstance", "tuple", "len", "all"]
def b_are_integers : List Str := ["isinstance", "tuple", "len", "all"]
def F_are_integers : Env → Rs Fl := seqS (ifS (orB (notB (asB (un1 (isF "tuple") (varE 0)))) (asB (bin2 neD (nary (one lenA) (consA (varE 0) nilA)) (varE 1)))) (retS (cstE (.bool false))) (nilS)) (retS (nary (one allD) (consA (compE [2] (itemsE (varE 0)) (nameG 2) (yesB) (callE f_is_integer [] (consA (varE 2) nilA))) nilA)))
def f_are_integers : List PyData → Rs PyData := runF 3 false F_are_integers
theorem h_are_integers : chkN N_are_integers (defScope s_are_integers) (fun _ => true) [true, true, false] [false, false, false] g_are_integers = true := by decide +kernel
theorem d_are_integers {C : Ct} (F : CtF C N_are_integers (defScope s_are_integers) (fun _ => true) [true, true, false] [false, false, false] g_are_integers) (W : CtW C b_are_integers []) (P : CtP C) (c_is_integer : CalD C "is_integer" 1 1 [] [] .cl f_is_integer) : DSs C [] [] (defBody s_are_integers) F_are_integers [] ⟨[], [], [], .cl⟩ :=
  (dss_cons (U1 := []) (ds_if (U2 := []) (DT.w (dw_or (dt_not (dt_val (isi_ W F 0 0 1 1 rfl rfl rfl rfl PyProof.Rows.boot_tuple (v_ F 0 rfl rfl (by decide))))) (dw_or1 (dt_cmp (Rv2 := []) (o_ne C W) ok_ne (bu_ (fr := false) W F 2 2 rfl rfl PySem.boot_len (c_len C) ok_len (da_cons (Rv2 := []) (v_ F 0 rfl rfl (by decide)) da_nil (fun _ z => z) (fun _ z => nomatch z))) (v_ F 1 rfl rfl (by decide)) (fun _ z => z) (fun _ z => nomatch z) rfl)))) (dss_one (ds_ret (U2 := []) de_bl (by decide) (fun _ _ _ _ _ _ _ h q => kd_cl h q))) dss_nil) (dss_one (ds_ret (U2 := []) (bu_ (fr := false) W F 3 3 rfl rfl DV.boot_all' (c_all C W) ok_all (da_cons (Rv2 := []) (de_fc (lc_ (own := [("part", 2)]) (UL := []) (Rv2 := []) (vb' := [false, false, true]) (lb' := [false, false, true]) (gs' := ["is_integer"]) W F (di_seq (v_ F 0 rfl rfl (by decide))) (by decide +kernel) (by decide +kernel) (fun B0 => (g_ B0 2 rfl rfl)) (fun B0 => dts_nil) (fun B0 => (de_call c_is_integer.blk (B0.gloP (i := 0) rfl).1 (B0.gloP (i := 0) rfl).2.1 (da_cons (Rv2 := []) (v_ B0 2 rfl rfl (by decide)) da_nil (fun _ z => z) (fun _ z => nomatch z)) rfl rfl (fun _ z => nomatch z))) (by decide) (fun _ z => z) (by decide) (by decide) (by decide))) da_nil (fun _ z => z) (fun _ z => nomatch z))) (by decide) (fun _ _ _ _ _ _ _ h q => kd_cl h q))))
/-! ### check_integer -/
abbrev s_check_integer : Stmt := top 9
def N_check_integer : List Str := ["value"]
def g_check_integer : List Str := ["is_integer"]
def b_check_integer : List Str := []
def F_check_integer : Env → Rs Fl := ifS (notB (asB (callE f_is_integer [] (consA (varE 0) nilA)))) (badS) (nilS)
def f_check_integer : List PyData → Rs PyData := runF 1 true F_check_integer
theorem h_check_integer : chkN N_check_integer (defScope s_check_integer) (fun _ => true) [true] [false] g_check_integer = true := by decide +kernel
theorem d_check_integer {C : Ct} (F : CtF C N_check_integer (defScope s_check_integer) (fun _ => true) [true] [false] g_check_integer) (W : CtW C b_check_integer []) (P : CtP C) (c_is_integer : CalD C "is_integer" 1 1 [] [] .cl f_is_integer) : DSs C [] [] (defBody s_check_integer) F_check_integer [] ⟨[], [], [], .cl⟩ :=
  (dss_one (ds_if (U2 := []) (dt_not (dt_val (de_call c_is_integer (F.gloP (i := 0) rfl).1 (F.gloP (i := 0) rfl).2.1 (da_cons (Rv2 := []) (v_ F 0 rfl rfl (by decide)) da_nil (fun _ z => z) (fun _ z => nomatch z)) rfl rfl (fun _ z => nomatch z)))) (dss_one (ds_never (U2 := []))) dss_nil))
/-! ### check_between -/
abbrev s_check_between : Stmt := top 10
def N_check_between : List Str := ["value", "least", "most"]
def g_check_between : List Str := ["is_natural"]
def b_check_between : List Str := []
def F_check_between : Env → Rs Fl := ifS (orB (notB (asB (callE f_is_natural [] (consA (varE 0) (consA (varE 1) nilA))))) (asB (bin2 gtD (varE 0) (varE 2)))) (badS) (nilS)
def f_check_between : List PyData → Rs PyData := runF 3 true F_check_between
theorem h_check_between : chkN N_check_between (defScope s_check_between) (fun _ => true) [true, true, true] [false, false, false] g_check_between = true := by decide +kernel
theorem d_check_between {C : Ct} (F : CtF C N_check_between (defScope s_check_between) (fun _ => true) [true, true, true] [false, false, false] g_check_between) (W : CtW C b_check_between []) (P : CtP C) (c_is_natural : CalD C "is_natural" 2 2 [] [] .cl f_is_natural) : DSs C [] [] (defBody s_check_between) F_check_between [] ⟨[], [], [], .cl⟩ :=
  (dss_one (ds_if (U2 := []) (DT.w (dw_or (dt_not (dt_val (de_call c_is_natural (F.gloP (i := 0) rfl).1 (F.gloP (i := 0) rfl).2.1 (da_cons (Rv2 := []) (v_ F 0 rfl rfl (by decide)) (da_cons (Rv2 := []) (v_ F 1 rfl rfl (by decide)) da_nil (fun _ z => z) (fun _ z => nomatch z)) (fun _ z => z) (fun _ z => nomatch z)) rfl rfl (fun _ z => nomatch z)))) (dw_or1 (dt_cmp (Rv2 := []) (o_gt C) ok_cmpI (v_ F 0 rfl rfl (by decide)) (v_ F 2 rfl rfl (by decide)) (fun _ z => z) (fun _ z => nomatch z) rfl)))) (dss_one (ds_never (U2 := []))) dss_nil))
/-! ### is_word_in -/
abbrev s_is_word_in : Stmt := top 12
def N_is_word_in : List Str := ["letters", "value", "letter"]
def g_is_word_in : List Str := ["isinstance", "tuple", "all"]
def b_is_word_in : List Str := ["isinstance", "tuple", "int", "bool", "abs", "all"]
def F_is_word_in : Env → Rs Fl := seqS (ifS (notB (asB (un1 (isF "tuple") (varE 1)))) (retS (cstE (.bool false))) (nilS)) (retS (nary (one allD) (consA (compE [2] (itemsE (varE 1)) (nameG 2) (yesB) (andV (un1 (isF "int") (varE 2)) (andV (notV (un1 (isF "bool") (varE 2))) (chainE ltA leD (cstE (.int 0)) (nary (one absD) (consA (varE 2) nilA)) (varE 0))))) nilA)))
def f_is_word_in : List PyData → Rs PyData := runF 3 false F_is_word_in
theorem h_is_word_in : chkN N_is_word_in (defScope s_is_word_in) (fun _ => true) [true, true, false] [false, false, false] g_is_word_in = true := by decide +kernel
theorem d_is_word_in {C : Ct} (F : CtF C N_is_word_in (defScope s_is_word_in) (fun _ => true) [true, true, false] [false, false, false] g_is_word_in) (W : CtW C b_is_word_in []) (P : CtP C) : DSs C [] [] (defBody s_is_word_in) F_is_word_in [] ⟨[], [], [], .cl⟩ :=
  (dss_cons (U1 := []) (ds_if (U2 := []) (dt_not (dt_val (isi_ W F 0 0 1 1 rfl rfl rfl rfl PyProof.Rows.boot_tuple (v_ F 1 rfl rfl (by decide))))) (dss_one (ds_ret (U2 := []) de_bl (by decide) (fun _ _ _ _ _ _ _ h q => kd_cl h q))) dss_nil) (dss_one (ds_ret (U2 := []) (bu_ (fr := false) W F 2 5 rfl rfl DV.boot_all' (c_all C W) ok_all (da_cons (Rv2 := []) (de_fc (lc_ (own := [("letter", 2)]) (UL := []) (Rv2 := []) (vb' := [true, false, true]) (lb' := [false, false, true]) (gs' := ["isinstance", "int", "bool", "abs"]) W F (di_seq (v_ F 1 rfl rfl (by decide))) (by decide +kernel) (by decide +kernel) (fun B0 => (g_ B0 2 rfl rfl)) (fun B0 => dts_nil) (fun B0 => (de_and (isi_ (CtW.blk W) B0 0 0 1 2 rfl rfl rfl rfl PyProof.Rows.boot_int (v_ B0 2 rfl rfl (by decide))) (de_and (de_not (isi_ (CtW.blk W) B0 0 0 2 3 rfl rfl rfl rfl PyProof.Rows.boot_bool (v_ B0 2 rfl rfl (by decide)))) (de_one (de_chain (o_lt (blkC C _) (CtW.blk W)) (o_le (blkC C _)) ok_lt ok_cmpI de_int (bu_ (fr := false) (CtW.blk W) B0 3 4 rfl rfl DV.boot_abs (c_abs (blkC C _)) ok_abs (da_cons (Rv2 := []) (v_ B0 2 rfl rfl (by decide)) da_nil (fun _ z => z) (fun _ z => nomatch z))) (v_ B0 0 rfl rfl (by decide))))))) (by decide) (fun _ z => z) (by decide) (by decide) (by decide))) da_nil (fun _ z => z) (fun _ z => nomatch z))) (by decide) (fun _ _ _ _ _ _ _ h q => kd_cl h q))))
/-! ### reduced_in -/
abbrev s_reduced_in : Stmt := top 13
def N_reduced_in : List Str := ["word", "found", "letter"]
def g_reduced_in : List Str := ["tuple"]
def b_reduced_in : List Str := ["tuple"]
def F_reduced_in : Env → Rs Fl := seqS (asgS 1 (lstE (nilA))) (seqS (forS (itemsE (varE 0)) (nameG 2) (ifS (andB (truB (varE 1)) (asB (bin2 eqD (bin2 ixA (varE 1) (un1 negD (cstE (.int 1)))) (un1 negD (varE 2))))) (dropS (putE true 1 popD nilA)) (dropS (putE true 1 appD (consA (varE 2) nilA))))) (retS (nary (one tupF) (consA (varE 1) nilA))))
def f_reduced_in : List PyData → Rs PyData := runF 3 false F_reduced_in
theorem h_reduced_in : chkN N_reduced_in (defScope s_reduced_in) (fun _ => true) [true, true, true] [false, true, true] g_reduced_in = true := by decide +kernel
theorem d_reduced_in {C : Ct} (F : CtF C N_reduced_in (defScope s_reduced_in) (fun _ => true) [true, true, true] [false, true, true] g_reduced_in) (W : CtW C b_reduced_in []) (P : CtP C) : DSs C [] [] (defBody s_reduced_in) F_reduced_in [] ⟨[], [], [], .cl⟩ :=
  (dss_cons (U1 := [1]) (as_ (kd := .fr) (Un := [1]) W F 1 rfl rfl (de_lst da_nil rfl) (by decide) (by decide) (fun _ z => nomatch z) (by decide)) (dss_cons (U1 := [1]) (fo_ (UL := [1]) (Rv2 := []) W P (di_seq (v_ F 0 rfl rfl (by decide))) (g_ F 2 rfl rfl) (dss_one (ds_if (U2 := [1]) (DT.w (dw_and (dt_tru (o_ F 1 rfl rfl (by decide))) (dw_and1 (dt_cmp (Rv2 := []) (o_eq C W) ok_eq (de_ix (fr := false) (Rv2 := [1]) (o_ix C W) ok_ixA (o_ F 1 rfl rfl (by decide)) (de_un (fr := false) (o_neg C) ok_neg de_int) (by decide) (fun i z => by cases z; decide)) (de_un (fr := false) (o_neg C) ok_neg (v_ F 2 rfl rfl (by decide))) (fun _ z => z) (fun _ z => nomatch z) rfl)))) (dss_one (ds_expr (de_put0 (l := true) (F.at (i := 1) rfl) (F.visP (i := 1) rfl rfl).1 (F.visP (i := 1) rfl rfl).2.1 (F.visP (i := 1) rfl rfl).2.2 PySem.F.plainAttrs_list PySem.F.slot_list_pop PySem.F.type_list_pop (fun _ => mt_pop) ok_pop (by decide) (by decide)))) (dss_one (ds_expr (de_put (l := true) (F.at (i := 1) rfl) (F.visP (i := 1) rfl rfl).1 (F.visP (i := 1) rfl rfl).2.1 (F.visP (i := 1) rfl rfl).2.2 PySem.F.plainAttrs_list PySem.F.slot_list_append PySem.F.type_list_append (fun _ => mt_append) ok_append (da_cons (Rv2 := []) (v_ F 2 rfl rfl (by decide)) da_nil (fun _ z => z) (fun _ z => nomatch z)) (by decide) (by decide) rfl))))) (by decide) (fun _ z => z) (by decide) (by decide)) (dss_one (ds_ret (U2 := []) (bt_ (fr := false) W F 0 0 rfl rfl PyProof.Rows.boot_tuple (c_tup C) ok_tuple (da_cons (Rv2 := [1]) (o_ F 1 rfl rfl (by decide)) da_nil (by decide) (fun i z => by cases z; decide))) (by decide) (fun _ _ _ _ _ _ _ h q => kd_cl h q)))))
/-! ### is_polynomial -/
abbrev s_is_polynomial : Stmt := top 18
def N_is_polynomial : List Str := ["value", "pair", "one", "other"]
def g_is_polynomial : List Str := ["isinstance", "tuple", "len", "are_integers", "is_integer", "min", "zip", "all"]
def b_is_polynomial : List Str := ["isinstance", "tuple", "len", "min", "zip", "all"]
def F_is_polynomial : Env → Rs Fl := seqS (ifS (notB (asB (un1 (isF "tuple") (varE 0)))) (retS (cstE (.bool false))) (nilS)) (seqS (forS (itemsE (varE 0)) (nameG 1) (seqS (ifS (orB (notB (asB (un1 (isF "tuple") (varE 1)))) (orB (asB (bin2 neD (nary (one lenA) (consA (varE 1) nilA)) (cstE (.int 2)))) (orB (notB (asB (callE f_are_integers [] (consA (bin2 ixA (varE 1) (cstE (.int 0))) (consA (cstE (.int 3)) nilA))))) (notB (asB (callE f_is_integer [] (consA (bin2 ixA (varE 1) (cstE (.int 1))) nilA))))))) (retS (cstE (.bool false))) (nilS)) (ifS (orB (asB (bin2 ltA (nary (one minF) (consA (bin2 ixA (varE 1) (cstE (.int 0))) nilA)) (cstE (.int 0)))) (asB (bin2 eqD (bin2 ixA (varE 1) (cstE (.int 1))) (cstE (.int 0))))) (retS (cstE (.bool false))) (nilS)))) (retS (nary (one allD) (consA (compE [2, 3] (zipE (consA (varE 0) (consA (sliceE (varE 0) (someO (cstE (.int 1))) (noO)) nilA))) (tupG (consG (nameG 2) (consG (nameG 3) (nilG)))) (yesB) (bin2 ltA (bin2 ixA (varE 2) (cstE (.int 0))) (bin2 ixA (varE 3) (cstE (.int 0))))) nilA))))
def f_is_polynomial : List PyData → Rs PyData := runF 4 false F_is_polynomial
theorem h_is_polynomial : chkN N_is_polynomial (defScope s_is_polynomial) (fun _ => true) [true, true, false, false] [false, true, false, false] g_is_polynomial = true := by decide +kernel
theorem d_is_polynomial {C : Ct} (F : CtF C N_is_polynomial (defScope s_is_polynomial) (fun _ => true) [true, true, false, false] [false, true, false, false] g_is_polynomial) (W : CtW C b_is_polynomial []) (P : CtP C) (c_are_integers : CalD C "are_integers" 2 2 [] [] .cl f_are_integers) (c_is_integer : CalD C "is_integer" 1 1 [] [] .cl f_is_integer) : DSs C [] [] (defBody s_is_polynomial) F_is_polynomial [] ⟨[], [], [], .cl⟩ :=
  (dss_cons (U1 := []) (ds_if (U2 := []) (dt_not (dt_val (isi_ W F 0 0 1 1 rfl rfl rfl rfl PyProof.Rows.boot_tuple (v_ F 0 rfl rfl (by decide))))) (dss_one (ds_ret (U2 := []) de_bl (by decide) (fun _ _ _ _ _ _ _ h q => kd_cl h q))) dss_nil) (dss_cons (U1 := []) (fo_ (UL := []) (Rv2 := []) W P (di_seq (v_ F 0 rfl rfl (by decide))) (g_ F 1 rfl rfl) (dss_cons (U1 := []) (ds_if (U2 := []) (DT.w (dw_or (dt_not (dt_val (isi_ W F 0 0 1 1 rfl rfl rfl rfl PyProof.Rows.boot_tuple (v_ F 1 rfl rfl (by decide))))) (dw_or (dt_cmp (Rv2 := []) (o_ne C W) ok_ne (bu_ (fr := false) W F 2 2 rfl rfl PySem.boot_len (c_len C) ok_len (da_cons (Rv2 := []) (v_ F 1 rfl rfl (by decide)) da_nil (fun _ z => z) (fun _ z => nomatch z))) de_int (fun _ z => z) (fun _ z => nomatch z) rfl) (dw_or (dt_not (dt_val (de_call c_are_integers (F.gloP (i := 3) rfl).1 (F.gloP (i := 3) rfl).2.1 (da_cons (Rv2 := []) (de_ix (fr := false) (Rv2 := []) (o_ix C W) ok_ixA (v_ F 1 rfl rfl (by decide)) de_int (fun _ z => z) (fun _ z => nomatch z)) (da_cons (Rv2 := []) de_int da_nil (fun _ z => z) (fun _ z => nomatch z)) (fun _ z => z) (fun _ z => nomatch z)) rfl rfl (fun _ z => nomatch z)))) (dw_or1 (dt_not (dt_val (de_call c_is_integer (F.gloP (i := 4) rfl).1 (F.gloP (i := 4) rfl).2.1 (da_cons (Rv2 := []) (de_ix (fr := false) (Rv2 := []) (o_ix C W) ok_ixA (v_ F 1 rfl rfl (by decide)) de_int (fun _ z => z) (fun _ z => nomatch z)) da_nil (fun _ z => z) (fun _ z => nomatch z)) rfl rfl (fun _ z => nomatch z))))))))) (dss_one (ds_ret (U2 := []) de_bl (by decide) (fun _ _ _ _ _ _ _ h q => kd_cl h q))) dss_nil) (dss_one (ds_if (U2 := []) (DT.w (dw_or (dt_cmp (Rv2 := []) (o_lt C W) ok_lt (bu_ (fr := false) W F 5 3 rfl rfl PyProof.Rows.boot_min (c_min C W) ok_min (da_cons (Rv2 := []) (de_ix (fr := false) (Rv2 := []) (o_ix C W) ok_ixA (v_ F 1 rfl rfl (by decide)) de_int (fun _ z => z) (fun _ z => nomatch z)) da_nil (fun _ z => z) (fun _ z => nomatch z))) de_int (fun _ z => z) (fun _ z => nomatch z) rfl) (dw_or1 (dt_cmp (Rv2 := []) (o_eq C W) ok_eq (de_ix (fr := false) (Rv2 := []) (o_ix C W) ok_ixA (v_ F 1 rfl rfl (by decide)) de_int (fun _ z => z) (fun _ z => nomatch z)) de_int (fun _ z => z) (fun _ z => nomatch z) rfl)))) (dss_one (ds_ret (U2 := []) de_bl (by decide) (fun _ _ _ _ _ _ _ h q => kd_cl h q))) dss_nil))) (by decide) (fun _ z => z) (by decide) (by decide)) (dss_one (ds_ret (U2 := []) (bu_ (fr := false) W F 7 5 rfl rfl DV.boot_all' (c_all C W) ok_all (da_cons (Rv2 := []) (de_fc (lc_ (own := [("one", 2), ("other", 3)]) (UL := []) (Rv2 := []) (vb' := [false, false, true, true]) (lb' := [false, false, true, true]) (gs' := []) W F (di_zip (F.gloP (i := 6) rfl).1 (fun z => W.mg z 4 _ rfl) (da_cons (Rv2 := []) (v_ F 0 rfl rfl (by decide)) (da_cons (Rv2 := []) (de_slice (Rv2 := []) (v_ F 0 rfl rfl (by decide)) (do_some de_int) do_none (fun _ z => z) (fun _ z => nomatch z)) da_nil (fun _ z => z) (fun _ z => nomatch z)) (fun _ z => z) (fun _ z => nomatch z)) rfl) (by decide +kernel) (by decide +kernel) (fun B0 => (dg_tup 2 (CtW.blk W).cm (dgs_cons (g_ B0 2 rfl rfl) (dgs_cons (g_ B0 3 rfl rfl) dgs_nil)) (by walk_at "ktgl"))) (fun B0 => dts_nil) (fun B0 => (de_cmp (fr := false) (Rv2 := []) (o_lt (blkC C _) (CtW.blk W)) ok_lt (de_ix (fr := false) (Rv2 := []) (o_ix (blkC C _) (CtW.blk W)) ok_ixA (v_ B0 2 rfl rfl (by decide)) de_int (fun _ z => z) (fun _ z => nomatch z)) (de_ix (fr := false) (Rv2 := []) (o_ix (blkC C _) (CtW.blk W)) ok_ixA (v_ B0 3 rfl rfl (by decide)) de_int (fun _ z => z) (fun _ z => nomatch z)) (fun _ z => z) (fun _ z => nomatch z) rfl)) (by decide) (fun _ z => z) (by decide) (by decide) (by decide))) da_nil (fun _ z => z) (fun _ z => nomatch z))) (by decide) (fun _ _ _ _ _ _ _ h q => kd_cl h q)))))
/-! ### summed -/
abbrev s_summed : Stmt := top 19
def N_summed : List Str := ["parts", "found", "powers", "many", "numbers", "others", "number", "key", "one", "other"]
def g_summed : List Str := ["zip", "tuple"]
def b_summed : List Str := ["zip", "tuple"]
def F_summed : Env → Rs Fl := seqS (asgS 1 (cstE (.dict [(.none, .none)]))) (seqS (forS (itemsE (varE 0)) (tupG (consG (nameG 2) (consG (nameG 3) (consG (nameG 4) (nilG))))) (forS (walkD entsD prItem 4) (tupG (consG (nameG 5) (consG (nameG 6) (nilG)))) (seqS (asgS 7 (nary (one tupF) (consA (compE [8, 9] (zipE (consA (varE 2) (consA (varE 5) nilA))) (tupG (consG (nameG 8) (consG (nameG 9) (nilG)))) (yesB) (bin2 addD (varE 8) (varE 9))) nilA))) (setS 1 (varE 7) (bin2 addD (getE2 (varE 1) (varE 7) (cstE (.int 0))) (bin2 mulI (varE 3) (varE 6))))))) (retS (dcE true [7, 6] (walkD entsD prItem 1) (tupG (consG (nameG 7) (consG (nameG 6) (nilG)))) (asB (bin2 neD (varE 6) (cstE (.int 0)))) (varE 7) (varE 6))))
def f_summed : List PyData → Rs PyData := runF 10 false F_summed
theorem h_summed : chkN N_summed (defScope s_summed) (fun _ => true) [true, true, true, true, true, true, true, true, false, false] [false, true, true, true, true, true, true, true, false, false] g_summed = true := by decide +kernel
theorem d_summed {C : Ct} (F : CtF C N_summed (defScope s_summed) (fun _ => true) [true, true, true, true, true, true, true, true, false, false] [false, true, true, true, true, true, true, true, false, false] g_summed) (W : CtW C b_summed []) (P : CtP C) : DSs C [] [] (defBody s_summed) F_summed [] ⟨[], [], [], .fr⟩ :=
  (dss_cons (U1 := [1]) (as_ (kd := .fr) (Un := [1]) W F 1 rfl rfl de_dicT (by decide) (by decide) (fun _ z => nomatch z) (by decide)) (dss_cons (U1 := [1]) (fo_ (UL := [1]) (Rv2 := []) W P (di_seq (v_ F 0 rfl rfl (by decide))) (dg_tup 3 W.cm (dgs_cons (g_ F 2 rfl rfl) (dgs_cons (g_ F 3 rfl rfl) (dgs_cons (g_ F 4 rfl rfl) dgs_nil))) (by walk_at "ktgl")) (dss_one (fd_ (UL := [1]) (Rv2 := []) W P (di_items (F.at (i := 4) rfl) (F.visP (i := 4) rfl rfl).1 (F.visP (i := 4) rfl rfl).2.1 (F.visP (i := 4) rfl rfl).2.2 (by decide)) (by decide) (fun _ _ h => h) (dg_tup 2 W.cm (dgs_cons (g_ F 5 rfl rfl) (dgs_cons (g_ F 6 rfl rfl) dgs_nil)) (by walk_at "ktgl")) (dss_cons (U1 := [1]) (as_ (kd := .cl) (Un := [1]) W F 7 rfl rfl (bt_ (fr := false) W F 1 1 rfl rfl PyProof.Rows.boot_tuple (c_tup C) ok_tuple (da_cons (Rv2 := []) (de_fc (lc_ (own := [("one", 8), ("other", 9)]) (UL := [1]) (Rv2 := []) (vb' := [false, false, false, false, false, false, false, false, true, true]) (lb' := [false, false, false, false, false, false, false, false, true, true]) (gs' := []) W F (di_zip (F.gloP (i := 0) rfl).1 (fun z => W.mg z 0 _ rfl) (da_cons (Rv2 := []) (v_ F 2 rfl rfl (by decide)) (da_cons (Rv2 := []) (v_ F 5 rfl rfl (by decide)) da_nil (fun _ z => z) (fun _ z => nomatch z)) (fun _ z => z) (fun _ z => nomatch z)) rfl) (by decide +kernel) (by decide +kernel) (fun B0 => (dg_tup 2 (CtW.blk W).cm (dgs_cons (g_ B0 8 rfl rfl) (dgs_cons (g_ B0 9 rfl rfl) dgs_nil)) (by walk_at "ktgl"))) (fun B0 => dts_nil) (fun B0 => (de_op (fr := false) (Rv2 := []) (o_add (blkC C _)) ok_add (v_ B0 8 rfl rfl (by decide)) (v_ B0 9 rfl rfl (by decide)) (fun _ z => z) (fun _ z => nomatch z))) (by decide) (fun _ z => z) (by decide) (by decide) (by decide))) da_nil (fun _ z => z) (fun _ z => nomatch z))) (by decide) (by decide) (fun _ z => nomatch z) (by decide)) (dss_one (ds_set (F.at (i := 1) rfl) (F.visP (i := 1) rfl rfl).1 (F.visP (i := 1) rfl rfl).2.1 (F.visP (i := 1) rfl rfl).2.2 W.u1 (de_op (fr := false) (Rv2 := []) (o_add C) ok_add (de_get2 (Rv2 := [1]) (W.u1) (o_ F 1 rfl rfl (by decide)) (v_ F 7 rfl rfl (by decide)) de_int (by decide) (fun i z => by cases z; decide) (by decide)) (de_op (fr := false) (Rv2 := []) (o_mul C) ok_mulI (v_ F 3 rfl rfl (by decide)) (v_ F 6 rfl rfl (by decide)) (fun _ z => z) (fun _ z => nomatch z)) (fun _ z => z) (fun _ z => nomatch z)) (v_ F 7 rfl rfl (by decide)) (by decide) (by decide)))) (by decide) (fun _ z => z) (by decide) (by decide))) (by decide) (fun _ z => z) (by decide) (by decide)) (dss_one (ds_ret (U2 := []) (de_in [] (dd_ (own := [("key", 7), ("number", 6)]) (UL := []) (Rv2 := []) (vb' := [false, false, false, false, false, false, true, true, false, false]) (lb' := [false, false, false, false, false, false, true, true, false, false]) (gs' := []) true W F (di_items (F.at (i := 1) rfl) (F.visP (i := 1) rfl rfl).1 (F.visP (i := 1) rfl rfl).2.1 (F.visP (i := 1) rfl rfl).2.2 (by decide)) (by decide) (fun _ _ h => h) (by decide +kernel) (by decide +kernel) (fun B1 => (dg_tup 2 (CtW.blk W).cm (dgs_cons (g_ B1 7 rfl rfl) (dgs_cons (g_ B1 6 rfl rfl) dgs_nil)) (by walk_at "ktgl"))) (fun B1 => (dts_one (dt_cmp (Rv2 := []) (o_ne (blkC C _) (CtW.blk W)) ok_ne (v_ B1 6 rfl rfl (by decide)) de_int (fun _ z => z) (fun _ z => nomatch z) rfl))) (fun B1 => (v_ B1 7 rfl rfl (by decide))) (fun B1 => (v_ B1 6 rfl rfl (by decide))) (by decide) (fun _ z => z) (by decide) (by decide) (by decide)) (by decide)) (by decide) (fun _ _ _ _ _ _ _ h q => kd_fr h q)))))
/-! ### by_first -/
abbrev s_by_first : Stmt := top 20
def N_by_first : List Str := ["parts", "one", "a", "b", "ab", "none"]
def g_by_first : List Str := ["summed", "Z", "Y", "X"]
def b_by_first : List Str := []
def F_by_first : Env → Rs Fl := seqS (asgG (tupG (consG (nameG 1) (consG (nameG 2) (consG (nameG 3) (consG (nameG 4) (nilG)))))) (varE 0)) (seqS (asgS 5 (tupE (consA (cstE (.int 0)) (consA (cstE (.int 0)) (consA (cstE (.int 0)) nilA))))) (retS (tupE (consA (callE f_summed [] (consA (lstE (consA (tupE (consA (varE 5) (consA (un1 negD (cstE (.int 1))) (consA (varE 2) nilA)))) (consA (tupE (consA (cstE (.dict [(.none, .tuple (([0, 0, 1] : List Int).map PyData.int))])) (consA (cstE (.int 1)) (consA (varE 3) nilA)))) (consA (tupE (consA (tupE (consA (cstE (.int 1)) (consA (cstE (.int 1)) (consA (cstE (.int 0)) nilA)))) (consA (un1 negD (cstE (.int 1))) (consA (varE 3) nilA)))) (consA (tupE (consA (cstE (.dict [(.none, .tuple (([0, 1, 0] : List Int).map PyData.int))])) (consA (un1 negD (cstE (.int 1))) (consA (varE 4) nilA)))) nilA))))) nilA)) (consA (callE f_summed [] (consA (lstE (consA (tupE (consA (varE 5) (consA (cstE (.int 1)) (consA (varE 1) nilA)))) (consA (tupE (consA (cstE (.dict [(.none, .tuple (([1, 0, 0] : List Int).map PyData.int))])) (consA (cstE (.int 1)) (consA (varE 2) nilA)))) (consA (tupE (consA (cstE (.dict [(.none, .tuple (([0, 1, 0] : List Int).map PyData.int))])) (consA (cstE (.int 1)) (consA (varE 3) nilA)))) (consA (tupE (consA (cstE (.dict [(.none, .tuple (([0, 0, 1] : List Int).map PyData.int))])) (consA (cstE (.int 1)) (consA (varE 4) nilA)))) nilA))))) nilA)) (consA (callE f_summed [] (consA (lstE (consA (tupE (consA (cstE (.dict [(.none, .tuple (([1, 0, 0] : List Int).map PyData.int))])) (consA (cstE (.int 1)) (consA (varE 3) nilA)))) (consA (tupE (consA (varE 5) (consA (cstE (.int 1)) (consA (varE 4) nilA)))) nilA))) nilA)) (consA (callE f_summed [] (consA (lstE (consA (tupE (consA (varE 5) (consA (un1 negD (cstE (.int 1))) (consA (varE 3) nilA)))) nilA)) nilA)) nilA)))))))
def f_by_first : List PyData → Rs PyData := runF 6 false F_by_first
theorem h_by_first : chkN N_by_first (defScope s_by_first) (fun _ => true) [true, true, true, true, true, true] [false, true, true, true, true, true] g_by_first = true := by decide +kernel
theorem d_by_first {C : Ct} (F : CtF C N_by_first (defScope s_by_first) (fun _ => true) [true, true, true, true, true, true] [false, true, true, true, true, true] g_by_first) (W : CtW C b_by_first []) (P : CtP C) (c_summed : CalD C "summed" 1 1 [] [] .fr f_summed) (k_X : ConD C "X" [1, 0, 0]) (k_Y : ConD C "Y" [0, 1, 0]) (k_Z : ConD C "Z" [0, 0, 1]) : DSs C [] [] (defBody s_by_first) F_by_first [] ⟨[], [], [], .cl⟩ :=
  (dss_cons (U1 := []) (ag_ (Un := []) W (v_ F 0 rfl rfl (by decide)) (dg_tup 4 W.cm (dgs_cons (g_ F 1 rfl rfl) (dgs_cons (g_ F 2 rfl rfl) (dgs_cons (g_ F 3 rfl rfl) (dgs_cons (g_ F 4 rfl rfl) dgs_nil)))) (by walk_at "ktgl")) (by decide) (by decide)) (dss_cons (U1 := []) (as_ (kd := .cl) (Un := []) W F 5 rfl rfl (de_tup (da_cons (Rv2 := []) de_int (da_cons (Rv2 := []) de_int (da_cons (Rv2 := []) de_int da_nil (fun _ z => z) (fun _ z => nomatch z)) (fun _ z => z) (fun _ z => nomatch z)) (fun _ z => z) (fun _ z => nomatch z)) rfl) (by decide) (by decide) (fun _ z => nomatch z) (by decide)) (dss_one (ds_ret (U2 := []) (de_tup (da_cons (Rv2 := []) (de_fc (de_call c_summed (F.gloP (i := 0) rfl).1 (F.gloP (i := 0) rfl).2.1 (da_cons (Rv2 := []) (de_fc (de_lst (da_cons (Rv2 := []) (de_tup (da_cons (Rv2 := []) (v_ F 5 rfl rfl (by decide)) (da_cons (Rv2 := []) (de_un (fr := false) (o_neg C) ok_neg de_int) (da_cons (Rv2 := []) (v_ F 2 rfl rfl (by decide)) da_nil (fun _ z => z) (fun _ z => nomatch z)) (fun _ z => z) (fun _ z => nomatch z)) (fun _ z => z) (fun _ z => nomatch z)) rfl) (da_cons (Rv2 := []) (de_tup (da_cons (Rv2 := []) (co_ F 1 rfl k_Z) (da_cons (Rv2 := []) de_int (da_cons (Rv2 := []) (v_ F 3 rfl rfl (by decide)) da_nil (fun _ z => z) (fun _ z => nomatch z)) (fun _ z => z) (fun _ z => nomatch z)) (fun _ z => z) (fun _ z => nomatch z)) rfl) (da_cons (Rv2 := []) (de_tup (da_cons (Rv2 := []) (de_tup (da_cons (Rv2 := []) de_int (da_cons (Rv2 := []) de_int (da_cons (Rv2 := []) de_int da_nil (fun _ z => z) (fun _ z => nomatch z)) (fun _ z => z) (fun _ z => nomatch z)) (fun _ z => z) (fun _ z => nomatch z)) rfl) (da_cons (Rv2 := []) (de_un (fr := false) (o_neg C) ok_neg de_int) (da_cons (Rv2 := []) (v_ F 3 rfl rfl (by decide)) da_nil (fun _ z => z) (fun _ z => nomatch z)) (fun _ z => z) (fun _ z => nomatch z)) (fun _ z => z) (fun _ z => nomatch z)) rfl) (da_cons (Rv2 := []) (de_tup (da_cons (Rv2 := []) (co_ F 2 rfl k_Y) (da_cons (Rv2 := []) (de_un (fr := false) (o_neg C) ok_neg de_int) (da_cons (Rv2 := []) (v_ F 4 rfl rfl (by decide)) da_nil (fun _ z => z) (fun _ z => nomatch z)) (fun _ z => z) (fun _ z => nomatch z)) (fun _ z => z) (fun _ z => nomatch z)) rfl) da_nil (fun _ z => z) (fun _ z => nomatch z)) (fun _ z => z) (fun _ z => nomatch z)) (fun _ z => z) (fun _ z => nomatch z)) (fun _ z => z) (fun _ z => nomatch z)) rfl)) da_nil (fun _ z => z) (fun _ z => nomatch z)) rfl rfl (fun _ z => nomatch z))) (da_cons (Rv2 := []) (de_fc (de_call c_summed (F.gloP (i := 0) rfl).1 (F.gloP (i := 0) rfl).2.1 (da_cons (Rv2 := []) (de_fc (de_lst (da_cons (Rv2 := []) (de_tup (da_cons (Rv2 := []) (v_ F 5 rfl rfl (by decide)) (da_cons (Rv2 := []) de_int (da_cons (Rv2 := []) (v_ F 1 rfl rfl (by decide)) da_nil (fun _ z => z) (fun _ z => nomatch z)) (fun _ z => z) (fun _ z => nomatch z)) (fun _ z => z) (fun _ z => nomatch z)) rfl) (da_cons (Rv2 := []) (de_tup (da_cons (Rv2 := []) (co_ F 3 rfl k_X) (da_cons (Rv2 := []) de_int (da_cons (Rv2 := []) (v_ F 2 rfl rfl (by decide)) da_nil (fun _ z => z) (fun _ z => nomatch z)) (fun _ z => z) (fun _ z => nomatch z)) (fun _ z => z) (fun _ z => nomatch z)) rfl) (da_cons (Rv2 := []) (de_tup (da_cons (Rv2 := []) (co_ F 2 rfl k_Y) (da_cons (Rv2 := []) de_int (da_cons (Rv2 := []) (v_ F 3 rfl rfl (by decide)) da_nil (fun _ z => z) (fun _ z => nomatch z)) (fun _ z => z) (fun _ z => nomatch z)) (fun _ z => z) (fun _ z => nomatch z)) rfl) (da_cons (Rv2 := []) (de_tup (da_cons (Rv2 := []) (co_ F 1 rfl k_Z) (da_cons (Rv2 := []) de_int (da_cons (Rv2 := []) (v_ F 4 rfl rfl (by decide)) da_nil (fun _ z => z) (fun _ z => nomatch z)) (fun _ z => z) (fun _ z => nomatch z)) (fun _ z => z) (fun _ z => nomatch z)) rfl) da_nil (fun _ z => z) (fun _ z => nomatch z)) (fun _ z => z) (fun _ z => nomatch z)) (fun _ z => z) (fun _ z => nomatch z)) (fun _ z => z) (fun _ z => nomatch z)) rfl)) da_nil (fun _ z => z) (fun _ z => nomatch z)) rfl rfl (fun _ z => nomatch z))) (da_cons (Rv2 := []) (de_fc (de_call c_summed (F.gloP (i := 0) rfl).1 (F.gloP (i := 0) rfl).2.1 (da_cons (Rv2 := []) (de_fc (de_lst (da_cons (Rv2 := []) (de_tup (da_cons (Rv2 := []) (co_ F 3 rfl k_X) (da_cons (Rv2 := []) de_int (da_cons (Rv2 := []) (v_ F 3 rfl rfl (by decide)) da_nil (fun _ z => z) (fun _ z => nomatch z)) (fun _ z => z) (fun _ z => nomatch z)) (fun _ z => z) (fun _ z => nomatch z)) rfl) (da_cons (Rv2 := []) (de_tup (da_cons (Rv2 := []) (v_ F 5 rfl rfl (by decide)) (da_cons (Rv2 := []) de_int (da_cons (Rv2 := []) (v_ F 4 rfl rfl (by decide)) da_nil (fun _ z => z) (fun _ z => nomatch z)) (fun _ z => z) (fun _ z => nomatch z)) (fun _ z => z) (fun _ z => nomatch z)) rfl) da_nil (fun _ z => z) (fun _ z => nomatch z)) (fun _ z => z) (fun _ z => nomatch z)) rfl)) da_nil (fun _ z => z) (fun _ z => nomatch z)) rfl rfl (fun _ z => nomatch z))) (da_cons (Rv2 := []) (de_fc (de_call c_summed (F.gloP (i := 0) rfl).1 (F.gloP (i := 0) rfl).2.1 (da_cons (Rv2 := []) (de_fc (de_lst (da_cons (Rv2 := []) (de_tup (da_cons (Rv2 := []) (v_ F 5 rfl rfl (by decide)) (da_cons (Rv2 := []) (de_un (fr := false) (o_neg C) ok_neg de_int) (da_cons (Rv2 := []) (v_ F 3 rfl rfl (by decide)) da_nil (fun _ z => z) (fun _ z => nomatch z)) (fun _ z => z) (fun _ z => nomatch z)) (fun _ z => z) (fun _ z => nomatch z)) rfl) da_nil (fun _ z => z) (fun _ z => nomatch z)) rfl)) da_nil (fun _ z => z) (fun _ z => nomatch z)) rfl rfl (fun _ z => nomatch z))) da_nil (fun _ z => z) (fun _ z => nomatch z)) (fun _ z => z) (fun _ z => nomatch z)) (fun _ z => z) (fun _ z => nomatch z)) (fun _ z => z) (fun _ z => nomatch z)) rfl) (by decide) (fun _ _ _ _ _ _ _ h q => kd_cl h q)))))
/-! ### by_second -/
abbrev s_by_second : Stmt := top 21
def N_by_second : List Str := ["parts", "one", "a", "b", "ab", "none"]
def g_by_second : List Str := ["summed", "Y"]
def b_by_second : List Str := []
def F_by_second : Env → Rs Fl := seqS (asgG (tupG (consG (nameG 1) (consG (nameG 2) (consG (nameG 3) (consG (nameG 4) (nilG)))))) (varE 0)) (seqS (asgS 5 (tupE (consA (cstE (.int 0)) (consA (cstE (.int 0)) (consA (cstE (.int 0)) nilA))))) (retS (tupE (consA (callE f_summed [] (consA (lstE (consA (tupE (consA (varE 5) (consA (un1 negD (cstE (.int 1))) (consA (varE 3) nilA)))) nilA)) nilA)) (consA (callE f_summed [] (consA (lstE (consA (tupE (consA (varE 5) (consA (un1 negD (cstE (.int 1))) (consA (varE 4) nilA)))) nilA)) nilA)) (consA (callE f_summed [] (consA (lstE (consA (tupE (consA (varE 5) (consA (cstE (.int 1)) (consA (varE 1) nilA)))) (consA (tupE (consA (cstE (.dict [(.none, .tuple (([0, 1, 0] : List Int).map PyData.int))])) (consA (cstE (.int 1)) (consA (varE 3) nilA)))) nilA))) nilA)) (consA (callE f_summed [] (consA (lstE (consA (tupE (consA (varE 5) (consA (cstE (.int 1)) (consA (varE 2) nilA)))) (consA (tupE (consA (cstE (.dict [(.none, .tuple (([0, 1, 0] : List Int).map PyData.int))])) (consA (cstE (.int 1)) (consA (varE 4) nilA)))) nilA))) nilA)) nilA)))))))
def f_by_second : List PyData → Rs PyData := runF 6 false F_by_second
theorem h_by_second : chkN N_by_second (defScope s_by_second) (fun _ => true) [true, true, true, true, true, true] [false, true, true, true, true, true] g_by_second = true := by decide +kernel
theorem d_by_second {C : Ct} (F : CtF C N_by_second (defScope s_by_second) (fun _ => true) [true, true, true, true, true, true] [false, true, true, true, true, true] g_by_second) (W : CtW C b_by_second []) (P : CtP C) (c_summed : CalD C "summed" 1 1 [] [] .fr f_summed) (k_Y : ConD C "Y" [0, 1, 0]) : DSs C [] [] (defBody s_by_second) F_by_second [] ⟨[], [], [], .cl⟩ :=
  (dss_cons (U1 := []) (ag_ (Un := []) W (v_ F 0 rfl rfl (by decide)) (dg_tup 4 W.cm (dgs_cons (g_ F 1 rfl rfl) (dgs_cons (g_ F 2 rfl rfl) (dgs_cons (g_ F 3 rfl rfl) (dgs_cons (g_ F 4 rfl rfl) dgs_nil)))) (by walk_at "ktgl")) (by decide) (by decide)) (dss_cons (U1 := []) (as_ (kd := .cl) (Un := []) W F 5 rfl rfl (de_tup (da_cons (Rv2 := []) de_int (da_cons (Rv2 := []) de_int (da_cons (Rv2 := []) de_int da_nil (fun _ z => z) (fun _ z => nomatch z)) (fun _ z => z) (fun _ z => nomatch z)) (fun _ z => z) (fun _ z => nomatch z)) rfl) (by decide) (by decide) (fun _ z => nomatch z) (by decide)) (dss_one (ds_ret (U2 := []) (de_tup (da_cons (Rv2 := []) (de_fc (de_call c_summed (F.gloP (i := 0) rfl).1 (F.gloP (i := 0) rfl).2.1 (da_cons (Rv2 := []) (de_fc (de_lst (da_cons (Rv2 := []) (de_tup (da_cons (Rv2 := []) (v_ F 5 rfl rfl (by decide)) (da_cons (Rv2 := []) (de_un (fr := false) (o_neg C) ok_neg de_int) (da_cons (Rv2 := []) (v_ F 3 rfl rfl (by decide)) da_nil (fun _ z => z) (fun _ z => nomatch z)) (fun _ z => z) (fun _ z => nomatch z)) (fun _ z => z) (fun _ z => nomatch z)) rfl) da_nil (fun _ z => z) (fun _ z => nomatch z)) rfl)) da_nil (fun _ z => z) (fun _ z => nomatch z)) rfl rfl (fun _ z => nomatch z))) (da_cons (Rv2 := []) (de_fc (de_call c_summed (F.gloP (i := 0) rfl).1 (F.gloP (i := 0) rfl).2.1 (da_cons (Rv2 := []) (de_fc (de_lst (da_cons (Rv2 := []) (de_tup (da_cons (Rv2 := []) (v_ F 5 rfl rfl (by decide)) (da_cons (Rv2 := []) (de_un (fr := false) (o_neg C) ok_neg de_int) (da_cons (Rv2 := []) (v_ F 4 rfl rfl (by decide)) da_nil (fun _ z => z) (fun _ z => nomatch z)) (fun _ z => z) (fun _ z => nomatch z)) (fun _ z => z) (fun _ z => nomatch z)) rfl) da_nil (fun _ z => z) (fun _ z => nomatch z)) rfl)) da_nil (fun _ z => z) (fun _ z => nomatch z)) rfl rfl (fun _ z => nomatch z))) (da_cons (Rv2 := []) (de_fc (de_call c_summed (F.gloP (i := 0) rfl).1 (F.gloP (i := 0) rfl).2.1 (da_cons (Rv2 := []) (de_fc (de_lst (da_cons (Rv2 := []) (de_tup (da_cons (Rv2 := []) (v_ F 5 rfl rfl (by decide)) (da_cons (Rv2 := []) de_int (da_cons (Rv2 := []) (v_ F 1 rfl rfl (by decide)) da_nil (fun _ z => z) (fun _ z => nomatch z)) (fun _ z => z) (fun _ z => nomatch z)) (fun _ z => z) (fun _ z => nomatch z)) rfl) (da_cons (Rv2 := []) (de_tup (da_cons (Rv2 := []) (co_ F 1 rfl k_Y) (da_cons (Rv2 := []) de_int (da_cons (Rv2 := []) (v_ F 3 rfl rfl (by decide)) da_nil (fun _ z => z) (fun _ z => nomatch z)) (fun _ z => z) (fun _ z => nomatch z)) (fun _ z => z) (fun _ z => nomatch z)) rfl) da_nil (fun _ z => z) (fun _ z => nomatch z)) (fun _ z => z) (fun _ z => nomatch z)) rfl)) da_nil (fun _ z => z) (fun _ z => nomatch z)) rfl rfl (fun _ z => nomatch z))) (da_cons (Rv2 := []) (de_fc (de_call c_summed (F.gloP (i := 0) rfl).1 (F.gloP (i := 0) rfl).2.1 (da_cons (Rv2 := []) (de_fc (de_lst (da_cons (Rv2 := []) (de_tup (da_cons (Rv2 := []) (v_ F 5 rfl rfl (by decide)) (da_cons (Rv2 := []) de_int (da_cons (Rv2 := []) (v_ F 2 rfl rfl (by decide)) da_nil (fun _ z => z) (fun _ z => nomatch z)) (fun _ z => z) (fun _ z => nomatch z)) (fun _ z => z) (fun _ z => nomatch z)) rfl) (da_cons (Rv2 := []) (de_tup (da_cons (Rv2 := []) (co_ F 1 rfl k_Y) (da_cons (Rv2 := []) de_int (da_cons (Rv2 := []) (v_ F 4 rfl rfl (by decide)) da_nil (fun _ z => z) (fun _ z => nomatch z)) (fun _ z => z) (fun _ z => nomatch z)) (fun _ z => z) (fun _ z => nomatch z)) rfl) da_nil (fun _ z => z) (fun _ z => nomatch z)) (fun _ z => z) (fun _ z => nomatch z)) rfl)) da_nil (fun _ z => z) (fun _ z => nomatch z)) rfl rfl (fun _ z => nomatch z))) da_nil (fun _ z => z) (fun _ z => nomatch z)) (fun _ z => z) (fun _ z => nomatch z)) (fun _ z => z) (fun _ z => nomatch z)) (fun _ z => z) (fun _ z => nomatch z)) rfl) (by decide) (fun _ _ _ _ _ _ _ h q => kd_cl h q)))))
/-! ### by_letter -/
abbrev s_by_letter : Stmt := top 22
def N_by_letter : List Str := ["parts", "letter", "ahead", "trace", "none", "part", "more"]
def g_by_letter : List Str := ["abs", "by_first", "by_second", "X", "Y", "zip", "tuple"]
def b_by_letter : List Str := ["abs", "zip", "tuple"]
def F_by_letter : Env → Rs Fl := seqS (asgS 2 (ifE (asB (bin2 eqD (nary (one absD) (consA (varE 1) nilA)) (cstE (.int 1)))) (callE f_by_first [] (consA (varE 0) nilA)) (callE f_by_second [] (consA (varE 0) nilA)))) (seqS (ifS (asB (bin2 gtD (varE 1) (cstE (.int 0)))) (retS (varE 2)) (nilS)) (seqS (asgG (tupG (consG (nameG 3) (consG (nameG 4) (nilG)))) (tupE (consA (ifE (asB (bin2 eqD (varE 1) (un1 negD (cstE (.int 1))))) (cstE (.dict [(.none, .tuple (([1, 0, 0] : List Int).map PyData.int))])) (cstE (.dict [(.none, .tuple (([0, 1, 0] : List Int).map PyData.int))]))) (consA (tupE (consA (cstE (.int 0)) (consA (cstE (.int 0)) (consA (cstE (.int 0)) nilA)))) nilA)))) (retS (nary (one tupF) (consA (compE [5, 6] (zipE (consA (varE 0) (consA (varE 2) nilA))) (tupG (consG (nameG 5) (consG (nameG 6) (nilG)))) (yesB) (callE f_summed [] (consA (lstE (consA (tupE (consA (varE 3) (consA (cstE (.int 1)) (consA (varE 5) nilA)))) (consA (tupE (consA (varE 4) (consA (un1 negD (cstE (.int 1))) (consA (varE 6) nilA)))) nilA))) nilA))) nilA)))))
def f_by_letter : List PyData → Rs PyData := runF 7 false F_by_letter
theorem h_by_letter : chkN N_by_letter (defScope s_by_letter) (fun _ => true) [true, true, true, true, true, false, false] [false, false, true, true, true, false, false] g_by_letter = true := by decide +kernel
theorem d_by_letter {C : Ct} (F : CtF C N_by_letter (defScope s_by_letter) (fun _ => true) [true, true, true, true, true, false, false] [false, false, true, true, true, false, false] g_by_letter) (W : CtW C b_by_letter []) (P : CtP C) (c_by_first : CalD C "by_first" 1 1 [] [] .cl f_by_first) (c_by_second : CalD C "by_second" 1 1 [] [] .cl f_by_second) (c_summed : CalD C "summed" 1 1 [] [] .fr f_summed) (k_X : ConD C "X" [1, 0, 0]) (k_Y : ConD C "Y" [0, 1, 0]) : DSs C [] [] (defBody s_by_letter) F_by_letter [] ⟨[], [], [], .cl⟩ :=
  (dss_cons (U1 := []) (as_ (kd := .cl) (Un := []) W F 2 rfl rfl (de_if (dt_cmp (Rv2 := []) (o_eq C W) ok_eq (bu_ (fr := false) W F 0 0 rfl rfl DV.boot_abs (c_abs C) ok_abs (da_cons (Rv2 := []) (v_ F 1 rfl rfl (by decide)) da_nil (fun _ z => z) (fun _ z => nomatch z))) de_int (fun _ z => z) (fun _ z => nomatch z) rfl) (de_call c_by_first (F.gloP (i := 1) rfl).1 (F.gloP (i := 1) rfl).2.1 (da_cons (Rv2 := []) (v_ F 0 rfl rfl (by decide)) da_nil (fun _ z => z) (fun _ z => nomatch z)) rfl rfl (fun _ z => nomatch z)) (de_call c_by_second (F.gloP (i := 2) rfl).1 (F.gloP (i := 2) rfl).2.1 (da_cons (Rv2 := []) (v_ F 0 rfl rfl (by decide)) da_nil (fun _ z => z) (fun _ z => nomatch z)) rfl rfl (fun _ z => nomatch z))) (by decide) (by decide) (fun _ z => nomatch z) (by decide)) (dss_cons (U1 := []) (ds_if (U2 := []) (dt_cmp (Rv2 := []) (o_gt C) ok_cmpI (v_ F 1 rfl rfl (by decide)) de_int (fun _ z => z) (fun _ z => nomatch z) rfl) (dss_one (ds_ret (U2 := []) (v_ F 2 rfl rfl (by decide)) (by decide) (fun _ _ _ _ _ _ _ h q => kd_cl h q))) dss_nil) (dss_cons (U1 := []) (agc_ (Un := []) W F rfl (de_tup (da_cons (Rv2 := []) (de_if (dt_cmp (Rv2 := []) (o_eq C W) ok_eq (v_ F 1 rfl rfl (by decide)) (de_un (fr := false) (o_neg C) ok_neg de_int) (fun _ z => z) (fun _ z => nomatch z) rfl) (co_ F 3 rfl k_X) (co_ F 4 rfl k_Y)) (da_cons (Rv2 := []) (de_tup (da_cons (Rv2 := []) de_int (da_cons (Rv2 := []) de_int (da_cons (Rv2 := []) de_int da_nil (fun _ z => z) (fun _ z => nomatch z)) (fun _ z => z) (fun _ z => nomatch z)) (fun _ z => z) (fun _ z => nomatch z)) rfl) da_nil (fun _ z => z) (fun _ z => nomatch z)) (fun _ z => z) (fun _ z => nomatch z)) rfl) (dg_tup 2 W.cm (dgs_cons (g_ F 3 rfl rfl) (dgs_cons (g_ F 4 rfl rfl) dgs_nil)) (by walk_at "ktgl")) (by decide) (by decide)) (dss_one (ds_ret (U2 := []) (bt_ (fr := false) W F 6 2 rfl rfl PyProof.Rows.boot_tuple (c_tup C) ok_tuple (da_cons (Rv2 := []) (de_fc (lc_ (own := [("part", 5), ("more", 6)]) (UL := []) (Rv2 := []) (vb' := [false, false, false, true, true, true, true]) (lb' := [false, false, false, false, false, true, true]) (gs' := ["summed"]) W F (di_zip (F.gloP (i := 5) rfl).1 (fun z => W.mg z 1 _ rfl) (da_cons (Rv2 := []) (v_ F 0 rfl rfl (by decide)) (da_cons (Rv2 := []) (v_ F 2 rfl rfl (by decide)) da_nil (fun _ z => z) (fun _ z => nomatch z)) (fun _ z => z) (fun _ z => nomatch z)) rfl) (by decide +kernel) (by decide +kernel) (fun B0 => (dg_tup 2 (CtW.blk W).cm (dgs_cons (g_ B0 5 rfl rfl) (dgs_cons (g_ B0 6 rfl rfl) dgs_nil)) (by walk_at "ktgl"))) (fun B0 => dts_nil) (fun B0 => (de_fc (de_call c_summed.blk (B0.gloP (i := 0) rfl).1 (B0.gloP (i := 0) rfl).2.1 (da_cons (Rv2 := []) (de_fc (de_lst (da_cons (Rv2 := []) (de_tup (da_cons (Rv2 := []) (v_ B0 3 rfl rfl (by decide)) (da_cons (Rv2 := []) de_int (da_cons (Rv2 := []) (v_ B0 5 rfl rfl (by decide)) da_nil (fun _ z => z) (fun _ z => nomatch z)) (fun _ z => z) (fun _ z => nomatch z)) (fun _ z => z) (fun _ z => nomatch z)) rfl) (da_cons (Rv2 := []) (de_tup (da_cons (Rv2 := []) (v_ B0 4 rfl rfl (by decide)) (da_cons (Rv2 := []) (de_un (fr := false) (o_neg (blkC C _)) ok_neg de_int) (da_cons (Rv2 := []) (v_ B0 6 rfl rfl (by decide)) da_nil (fun _ z => z) (fun _ z => nomatch z)) (fun _ z => z) (fun _ z => nomatch z)) (fun _ z => z) (fun _ z => nomatch z)) rfl) da_nil (fun _ z => z) (fun _ z => nomatch z)) (fun _ z => z) (fun _ z => nomatch z)) rfl)) da_nil (fun _ z => z) (fun _ z => nomatch z)) rfl rfl (fun _ z => nomatch z)))) (by decide) (fun _ z => z) (by decide) (by decide) (by decide))) da_nil (fun _ z => z) (fun _ z => nomatch z))) (by decide) (fun _ _ _ _ _ _ _ h q => kd_cl h q))))))
/-! ### trace_of -/
abbrev s_trace_of : Stmt := top 23
def N_trace_of : List Str := ["word", "parts", "letter", "none", "total"]
def g_trace_of : List Str := ["is_word_in", "reduced_in", "by_letter", "summed", "X", "Y", "Z", "sorted", "tuple"]
def b_trace_of : List Str := ["sorted", "tuple"]
def F_trace_of : Env → Rs Fl := seqS (ifS (notB (asB (callE f_is_word_in [] (consA (cstE (.int 2)) (consA (varE 0) nilA))))) (badS) (nilS)) (seqS (asgS 1 (tupE (consA (dsp1E (tupE (consA (cstE (.int 0)) (consA (cstE (.int 0)) (consA (cstE (.int 0)) nilA)))) (cstE (.int 1))) (consA (cstE (.dict [(.none, .none)])) (consA (cstE (.dict [(.none, .none)])) (consA (cstE (.dict [(.none, .none)])) nilA)))))) (seqS (forS (itemsE (callE f_reduced_in [] (consA (varE 0) nilA))) (nameG 2) (asgS 1 (callE f_by_letter [] (consA (varE 1) (consA (varE 2) nilA))))) (seqS (asgS 3 (tupE (consA (cstE (.int 0)) (consA (cstE (.int 0)) (consA (cstE (.int 0)) nilA))))) (seqS (asgS 4 (callE f_summed [] (consA (lstE (consA (tupE (consA (varE 3) (consA (cstE (.int 2)) (consA (bin2 ixA (varE 1) (cstE (.int 0))) nilA)))) (consA (tupE (consA (cstE (.dict [(.none, .tuple (([1, 0, 0] : List Int).map PyData.int))])) (consA (cstE (.int 1)) (consA (bin2 ixA (varE 1) (cstE (.int 1))) nilA)))) (consA (tupE (consA (cstE (.dict [(.none, .tuple (([0, 1, 0] : List Int).map PyData.int))])) (consA (cstE (.int 1)) (consA (bin2 ixA (varE 1) (cstE (.int 2))) nilA)))) (consA (tupE (consA (cstE (.dict [(.none, .tuple (([0, 0, 1] : List Int).map PyData.int))])) (consA (cstE (.int 1)) (consA (bin2 ixA (varE 1) (cstE (.int 3))) nilA)))) nilA))))) nilA))) (retS (nary (one tupF) (consA (un1 sitF (varE 4)) nilA)))))))
def f_trace_of : List PyData → Rs PyData := runF 5 false F_trace_of
theorem h_trace_of : chkN N_trace_of (defScope s_trace_of) (fun _ => true) [true, true, true, true, true] [false, true, true, true, true] g_trace_of = true := by decide +kernel
theorem d_trace_of {C : Ct} (F : CtF C N_trace_of (defScope s_trace_of) (fun _ => true) [true, true, true, true, true] [false, true, true, true, true] g_trace_of) (W : CtW C b_trace_of []) (P : CtP C) (c_is_word_in : CalD C "is_word_in" 2 2 [] [] .cl f_is_word_in) (c_reduced_in : CalD C "reduced_in" 1 1 [] [] .cl f_reduced_in) (c_by_letter : CalD C "by_letter" 2 2 [] [] .cl f_by_letter) (c_summed : CalD C "summed" 1 1 [] [] .fr f_summed) (k_X : ConD C "X" [1, 0, 0]) (k_Y : ConD C "Y" [0, 1, 0]) (k_Z : ConD C "Z" [0, 0, 1]) : DSs C [] [] (defBody s_trace_of) F_trace_of [] ⟨[], [], [], .cl⟩ :=
  (dss_cons (U1 := []) (ds_if (U2 := []) (dt_not (dt_val (de_call c_is_word_in (F.gloP (i := 0) rfl).1 (F.gloP (i := 0) rfl).2.1 (da_cons (Rv2 := []) de_int (da_cons (Rv2 := []) (v_ F 0 rfl rfl (by decide)) da_nil (fun _ z => z) (fun _ z => nomatch z)) (fun _ z => z) (fun _ z => nomatch z)) rfl rfl (fun _ z => nomatch z)))) (dss_one (ds_never (U2 := []))) dss_nil) (dss_cons (U1 := []) (as_ (kd := .cl) (Un := []) W F 1 rfl rfl (de_tup (da_cons (Rv2 := []) (de_fc (de_dsp1 W.u2 (de_tup (da_cons (Rv2 := []) de_int (da_cons (Rv2 := []) de_int (da_cons (Rv2 := []) de_int da_nil (fun _ z => z) (fun _ z => nomatch z)) (fun _ z => z) (fun _ z => nomatch z)) (fun _ z => z) (fun _ z => nomatch z)) rfl) de_int)) (da_cons (Rv2 := []) (de_fc de_dicT) (da_cons (Rv2 := []) (de_fc de_dicT) (da_cons (Rv2 := []) (de_fc de_dicT) da_nil (fun _ z => z) (fun _ z => nomatch z)) (fun _ z => z) (fun _ z => nomatch z)) (fun _ z => z) (fun _ z => nomatch z)) (fun _ z => z) (fun _ z => nomatch z)) rfl) (by decide) (by decide) (fun _ z => nomatch z) (by decide)) (dss_cons (U1 := []) (fo_ (UL := []) (Rv2 := []) W P (di_seq (de_call c_reduced_in (F.gloP (i := 1) rfl).1 (F.gloP (i := 1) rfl).2.1 (da_cons (Rv2 := []) (v_ F 0 rfl rfl (by decide)) da_nil (fun _ z => z) (fun _ z => nomatch z)) rfl rfl (fun _ z => nomatch z))) (g_ F 2 rfl rfl) (dss_one (as_ (kd := .cl) (Un := []) W F 1 rfl rfl (de_call c_by_letter (F.gloP (i := 2) rfl).1 (F.gloP (i := 2) rfl).2.1 (da_cons (Rv2 := []) (v_ F 1 rfl rfl (by decide)) (da_cons (Rv2 := []) (v_ F 2 rfl rfl (by decide)) da_nil (fun _ z => z) (fun _ z => nomatch z)) (fun _ z => z) (fun _ z => nomatch z)) rfl rfl (fun _ z => nomatch z)) (by decide) (by decide) (fun _ z => nomatch z) (by decide))) (by decide) (fun _ z => z) (by decide) (by decide)) (dss_cons (U1 := []) (as_ (kd := .cl) (Un := []) W F 3 rfl rfl (de_tup (da_cons (Rv2 := []) de_int (da_cons (Rv2 := []) de_int (da_cons (Rv2 := []) de_int da_nil (fun _ z => z) (fun _ z => nomatch z)) (fun _ z => z) (fun _ z => nomatch z)) (fun _ z => z) (fun _ z => nomatch z)) rfl) (by decide) (by decide) (fun _ z => nomatch z) (by decide)) (dss_cons (U1 := [4]) (as_ (kd := .fr) (Un := [4]) W F 4 rfl rfl (de_call c_summed (F.gloP (i := 3) rfl).1 (F.gloP (i := 3) rfl).2.1 (da_cons (Rv2 := []) (de_fc (de_lst (da_cons (Rv2 := []) (de_tup (da_cons (Rv2 := []) (v_ F 3 rfl rfl (by decide)) (da_cons (Rv2 := []) de_int (da_cons (Rv2 := []) (de_ix (fr := false) (Rv2 := []) (o_ix C W) ok_ixA (v_ F 1 rfl rfl (by decide)) de_int (fun _ z => z) (fun _ z => nomatch z)) da_nil (fun _ z => z) (fun _ z => nomatch z)) (fun _ z => z) (fun _ z => nomatch z)) (fun _ z => z) (fun _ z => nomatch z)) rfl) (da_cons (Rv2 := []) (de_tup (da_cons (Rv2 := []) (co_ F 4 rfl k_X) (da_cons (Rv2 := []) de_int (da_cons (Rv2 := []) (de_ix (fr := false) (Rv2 := []) (o_ix C W) ok_ixA (v_ F 1 rfl rfl (by decide)) de_int (fun _ z => z) (fun _ z => nomatch z)) da_nil (fun _ z => z) (fun _ z => nomatch z)) (fun _ z => z) (fun _ z => nomatch z)) (fun _ z => z) (fun _ z => nomatch z)) rfl) (da_cons (Rv2 := []) (de_tup (da_cons (Rv2 := []) (co_ F 5 rfl k_Y) (da_cons (Rv2 := []) de_int (da_cons (Rv2 := []) (de_ix (fr := false) (Rv2 := []) (o_ix C W) ok_ixA (v_ F 1 rfl rfl (by decide)) de_int (fun _ z => z) (fun _ z => nomatch z)) da_nil (fun _ z => z) (fun _ z => nomatch z)) (fun _ z => z) (fun _ z => nomatch z)) (fun _ z => z) (fun _ z => nomatch z)) rfl) (da_cons (Rv2 := []) (de_tup (da_cons (Rv2 := []) (co_ F 6 rfl k_Z) (da_cons (Rv2 := []) de_int (da_cons (Rv2 := []) (de_ix (fr := false) (Rv2 := []) (o_ix C W) ok_ixA (v_ F 1 rfl rfl (by decide)) de_int (fun _ z => z) (fun _ z => nomatch z)) da_nil (fun _ z => z) (fun _ z => nomatch z)) (fun _ z => z) (fun _ z => nomatch z)) (fun _ z => z) (fun _ z => nomatch z)) rfl) da_nil (fun _ z => z) (fun _ z => nomatch z)) (fun _ z => z) (fun _ z => nomatch z)) (fun _ z => z) (fun _ z => nomatch z)) (fun _ z => z) (fun _ z => nomatch z)) rfl)) da_nil (fun _ z => z) (fun _ z => nomatch z)) rfl rfl (fun _ z => nomatch z)) (by decide) (by decide) (fun _ z => nomatch z) (by decide)) (dss_one (ds_ret (U2 := []) (bt_ (fr := false) W F 8 1 rfl rfl PyProof.Rows.boot_tuple (c_tup C) ok_tuple (da_cons (Rv2 := []) (de_fc (de_sit W.cm W.u65 (F.gloP (i := 7) rfl).1 (fun z => W.mg z 0 _ rfl) (o_ F 4 rfl rfl (by decide)))) da_nil (fun _ z => z) (fun _ z => nomatch z))) (by decide) (fun _ _ _ _ _ _ _ h q => kd_cl h q))))))))
/-! ### value_of -/
abbrev s_value_of : Stmt := top 24
def N_value_of : List Str := ["polynomial", "x", "y", "z", "value", "total", "powers", "number", "power", "_"]
def g_value_of : List Str := ["is_polynomial", "check_integer", "zip", "range"]
def b_value_of : List Str := ["zip", "range"]
def F_value_of : Env → Rs Fl := seqS (ifS (notB (asB (callE f_is_polynomial [] (consA (varE 0) nilA)))) (badS) (nilS)) (seqS (forS (itemsE (tupE (consA (varE 1) (consA (varE 2) (consA (varE 3) nilA))))) (nameG 4) (dropS (callE f_check_integer [] (consA (varE 4) nilA)))) (seqS (asgS 5 (cstE (.int 0))) (seqS (forS (itemsE (varE 0)) (tupG (consG (nameG 6) (consG (nameG 7) (nilG)))) (seqS (forS (zipE (consA (tupE (consA (varE 1) (consA (varE 2) (consA (varE 3) nilA)))) (consA (varE 6) nilA))) (tupG (consG (nameG 4) (consG (nameG 8) (nilG)))) (forS (rng1 (varE 8)) (nameG 9) (asgS 7 (bin2 mulI (varE 7) (varE 4))))) (asgS 5 (bin2 addD (varE 5) (varE 7))))) (retS (varE 5)))))
def f_value_of : List PyData → Rs PyData := runF 10 false F_value_of
theorem h_value_of : chkN N_value_of (defScope s_value_of) (fun _ => true) [true, true, true, true, true, true, true, true, true, false] [false, false, false, false, true, true, true, true, true, true] g_value_of = true := by decide +kernel
theorem d_value_of {C : Ct} (F : CtF C N_value_of (defScope s_value_of) (fun _ => true) [true, true, true, true, true, true, true, true, true, false] [false, false, false, false, true, true, true, true, true, true] g_value_of) (W : CtW C b_value_of []) (P : CtP C) (c_is_polynomial : CalD C "is_polynomial" 1 1 [] [] .cl f_is_polynomial) (c_check_integer : CalD C "check_integer" 1 1 [] [] .cl f_check_integer) : DSs C [] [] (defBody s_value_of) F_value_of [] ⟨[], [], [], .cl⟩ :=
  (dss_cons (U1 := []) (ds_if (U2 := []) (dt_not (dt_val (de_call c_is_polynomial (F.gloP (i := 0) rfl).1 (F.gloP (i := 0) rfl).2.1 (da_cons (Rv2 := []) (v_ F 0 rfl rfl (by decide)) da_nil (fun _ z => z) (fun _ z => nomatch z)) rfl rfl (fun _ z => nomatch z)))) (dss_one (ds_never (U2 := []))) dss_nil) (dss_cons (U1 := []) (fo_ (UL := []) (Rv2 := []) W P (di_seq (de_tup (da_cons (Rv2 := []) (v_ F 1 rfl rfl (by decide)) (da_cons (Rv2 := []) (v_ F 2 rfl rfl (by decide)) (da_cons (Rv2 := []) (v_ F 3 rfl rfl (by decide)) da_nil (fun _ z => z) (fun _ z => nomatch z)) (fun _ z => z) (fun _ z => nomatch z)) (fun _ z => z) (fun _ z => nomatch z)) rfl)) (g_ F 4 rfl rfl) (dss_one (ds_expr (de_call c_check_integer (F.gloP (i := 1) rfl).1 (F.gloP (i := 1) rfl).2.1 (da_cons (Rv2 := []) (v_ F 4 rfl rfl (by decide)) da_nil (fun _ z => z) (fun _ z => nomatch z)) rfl rfl (fun _ z => nomatch z)))) (by decide) (fun _ z => z) (by decide) (by decide)) (dss_cons (U1 := []) (as_ (kd := .cl) (Un := []) W F 5 rfl rfl de_int (by decide) (by decide) (fun _ z => nomatch z) (by decide)) (dss_cons (U1 := []) (fo_ (UL := []) (Rv2 := []) W P (di_seq (v_ F 0 rfl rfl (by decide))) (dg_tup 2 W.cm (dgs_cons (g_ F 6 rfl rfl) (dgs_cons (g_ F 7 rfl rfl) dgs_nil)) (by walk_at "ktgl")) (dss_cons (U1 := []) (fo_ (UL := []) (Rv2 := []) W P (di_zip (F.gloP (i := 2) rfl).1 (fun z => W.mg z 0 _ rfl) (da_cons (Rv2 := []) (de_tup (da_cons (Rv2 := []) (v_ F 1 rfl rfl (by decide)) (da_cons (Rv2 := []) (v_ F 2 rfl rfl (by decide)) (da_cons (Rv2 := []) (v_ F 3 rfl rfl (by decide)) da_nil (fun _ z => z) (fun _ z => nomatch z)) (fun _ z => z) (fun _ z => nomatch z)) (fun _ z => z) (fun _ z => nomatch z)) rfl) (da_cons (Rv2 := []) (v_ F 6 rfl rfl (by decide)) da_nil (fun _ z => z) (fun _ z => nomatch z)) (fun _ z => z) (fun _ z => nomatch z)) rfl) (dg_tup 2 W.cm (dgs_cons (g_ F 4 rfl rfl) (dgs_cons (g_ F 8 rfl rfl) dgs_nil)) (by walk_at "ktgl")) (dss_one (fo_ (UL := []) (Rv2 := []) W P (di_range1 (F.gloP (i := 3) rfl).1 (fun z => W.mg z 1 _ rfl) (v_ F 8 rfl rfl (by decide))) (g_ F 9 rfl rfl) (dss_one (as_ (kd := .cl) (Un := []) W F 7 rfl rfl (de_op (fr := false) (Rv2 := []) (o_mul C) ok_mulI (v_ F 7 rfl rfl (by decide)) (v_ F 4 rfl rfl (by decide)) (fun _ z => z) (fun _ z => nomatch z)) (by decide) (by decide) (fun _ z => nomatch z) (by decide))) (by decide) (fun _ z => z) (by decide) (by decide))) (by decide) (fun _ z => z) (by decide) (by decide)) (dss_one (as_ (kd := .cl) (Un := []) W F 5 rfl rfl (de_op (fr := false) (Rv2 := []) (o_add C) ok_add (v_ F 5 rfl rfl (by decide)) (v_ F 7 rfl rfl (by decide)) (fun _ z => z) (fun _ z => nomatch z)) (by decide) (by decide) (fun _ z => nomatch z) (by decide)))) (by decide) (fun _ z => z) (by decide) (by decide)) (dss_one (ds_ret (U2 := []) (v_ F 5 rfl rfl (by decide)) (by decide) (fun _ _ _ _ _ _ _ h q => kd_cl h q)))))))
/-! ### check_letters -/
abbrev s_check_letters : Stmt := top 26
def N_check_letters : List Str := ["n"]
def g_check_letters : List Str := ["check_between"]
def b_check_letters : List Str := []
def F_check_letters : Env → Rs Fl := dropS (callE f_check_between [] (consA (varE 0) (consA (cstE (.int 1)) (consA (cstE (.int 6)) nilA))))
def f_check_letters : List PyData → Rs PyData := runF 1 true F_check_letters
theorem h_check_letters : chkN N_check_letters (defScope s_check_letters) (fun _ => true) [true] [false] g_check_letters = true := by decide +kernel
theorem d_check_letters {C : Ct} (F : CtF C N_check_letters (defScope s_check_letters) (fun _ => true) [true] [false] g_check_letters) (W : CtW C b_check_letters []) (P : CtP C) (c_check_between : CalD C "check_between" 3 3 [] [] .cl f_check_between) : DSs C [] [] (defBody s_check_letters) F_check_letters [] ⟨[], [], [], .cl⟩ :=
  (dss_one (ds_expr (de_call c_check_between (F.gloP (i := 0) rfl).1 (F.gloP (i := 0) rfl).2.1 (da_cons (Rv2 := []) (v_ F 0 rfl rfl (by decide)) (da_cons (Rv2 := []) de_int (da_cons (Rv2 := []) de_int da_nil (fun _ z => z) (fun _ z => nomatch z)) (fun _ z => z) (fun _ z => nomatch z)) (fun _ z => z) (fun _ z => nomatch z)) rfl rfl (fun _ z => nomatch z))))
/-! ### reduced -/
abbrev s_reduced : Stmt := top 27
def N_reduced : List Str := ["n", "word"]
def g_reduced : List Str := ["check_letters", "is_word_in", "reduced_in"]
def b_reduced : List Str := []
def F_reduced : Env → Rs Fl := seqS (dropS (callE f_check_letters [] (consA (varE 0) nilA))) (seqS (ifS (notB (asB (callE f_is_word_in [] (consA (varE 0) (consA (varE 1) nilA))))) (badS) (nilS)) (retS (callE f_reduced_in [] (consA (varE 1) nilA))))
def f_reduced : List PyData → Rs PyData := runF 2 false F_reduced
theorem h_reduced : chkN N_reduced (defScope s_reduced) (fun _ => true) [true, true] [false, false] g_reduced = true := by decide +kernel
theorem d_reduced {C : Ct} (F : CtF C N_reduced (defScope s_reduced) (fun _ => true) [true, true] [false, false] g_reduced) (W : CtW C b_reduced []) (P : CtP C) (c_check_letters : CalD C "check_letters" 1 1 [] [] .cl f_check_letters) (c_is_word_in : CalD C "is_word_in" 2 2 [] [] .cl f_is_word_in) (c_reduced_in : CalD C "reduced_in" 1 1 [] [] .cl f_reduced_in) : DSs C [] [] (defBody s_reduced) F_reduced [] ⟨[], [], [], .cl⟩ :=
  (dss_cons (U1 := []) (ds_expr (de_call c_check_letters (F.gloP (i := 0) rfl).1 (F.gloP (i := 0) rfl).2.1 (da_cons (Rv2 := []) (v_ F 0 rfl rfl (by decide)) da_nil (fun _ z => z) (fun _ z => nomatch z)) rfl rfl (fun _ z => nomatch z))) (dss_cons (U1 := []) (ds_if (U2 := []) (dt_not (dt_val (de_call c_is_word_in (F.gloP (i := 1) rfl).1 (F.gloP (i := 1) rfl).2.1 (da_cons (Rv2 := []) (v_ F 0 rfl rfl (by decide)) (da_cons (Rv2 := []) (v_ F 1 rfl rfl (by decide)) da_nil (fun _ z => z) (fun _ z => nomatch z)) (fun _ z => z) (fun _ z => nomatch z)) rfl rfl (fun _ z => nomatch z)))) (dss_one (ds_never (U2 := []))) dss_nil) (dss_one (ds_ret (U2 := []) (de_call c_reduced_in (F.gloP (i := 2) rfl).1 (F.gloP (i := 2) rfl).2.1 (da_cons (Rv2 := []) (v_ F 1 rfl rfl (by decide)) da_nil (fun _ z => z) (fun _ z => nomatch z)) rfl rfl (fun _ z => nomatch z)) (by decide) (fun _ _ _ _ _ _ _ h q => kd_cl h q)))))
/-! ### _law_begin -/
abbrev s__law_begin : Stmt := top 29
def N__law_begin : List Str := ["script", "cells", "cell"]
def g__law_begin : List Str := ["sum", "int"]
def b__law_begin : List Str := ["int", "sum"]
def F__law_begin : Env → Rs Fl := seqS (asgS 1 (compE [2] (itemsE (sliceE (varE 0) (noO) (someO (cstE (.int 63))))) (nameG 2) (yesB) (ifE (asB (bin2 geD (varE 2) (cstE (.int 0)))) (bin2 mulI (nary (one intF) (consA (varE 2) nilA)) (cstE (.int 2))) (bin2 subD (bin2 mulI (un1 negD (nary (one intF) (consA (varE 2) nilA))) (cstE (.int 2))) (cstE (.int 1)))))) (retS (dspE ["cells", "at", "left", "count", "sum"] (consA (varE 1) (consA (cstE (.int 0)) (consA (cstE (.int 0)) (consA (cstE (.int 0)) (consA (bin2 modD (nary (one intF) (consA (nary (one sumD) (consA (varE 1) nilA)) nilA)) (cstE (.int 1000003))) nilA)))))))
def f__law_begin : List PyData → Rs PyData := runF 3 false F__law_begin
theorem h__law_begin : chkN N__law_begin (defScope s__law_begin) (fun _ => true) [true, true, false] [false, true, false] g__law_begin = true := by decide +kernel
theorem d__law_begin {C : Ct} (F : CtF C N__law_begin (defScope s__law_begin) (fun _ => true) [true, true, false] [false, true, false] g__law_begin) (W : CtW C b__law_begin []) (P : CtP C) : DSs C [] [] (defBody s__law_begin) F__law_begin [] ⟨[], [], [], .fr⟩ :=
  (dss_cons (U1 := []) (asL_ (Un := []) (own := [("cell", 2)]) (UL := []) (Rv2 := []) (vb' := [false, false, true]) (lb' := [false, false, true]) (gs' := ["int"]) W F 1 rfl rfl rfl (by decide +kernel) rfl (di_seq (de_slice (Rv2 := []) (v_ F 0 rfl rfl (by decide)) do_none (do_some de_int) (fun _ z => z) (fun _ z => nomatch z))) (by decide +kernel) (by decide +kernel) (fun B0 => (g_ B0 2 rfl rfl)) (fun B0 => dts_nil) (fun B0 => (de_if (dt_cmp (Rv2 := []) (o_ge (blkC C _)) ok_cmpI (v_ B0 2 rfl rfl (by decide)) de_int (fun _ z => z) (fun _ z => nomatch z) rfl) (de_op (fr := false) (Rv2 := []) (o_mul (blkC C _)) ok_mulI (bt_ (fr := false) (CtW.blk W) B0 0 0 rfl rfl PyProof.Rows.boot_int (c_int (blkC C _)) ok_int (da_cons (Rv2 := []) (v_ B0 2 rfl rfl (by decide)) da_nil (fun _ z => z) (fun _ z => nomatch z))) de_int (fun _ z => z) (fun _ z => nomatch z)) (de_op (fr := false) (Rv2 := []) (o_sub (blkC C _)) ok_sub (de_op (fr := false) (Rv2 := []) (o_mul (blkC C _)) ok_mulI (de_un (fr := false) (o_neg (blkC C _)) ok_neg (bt_ (fr := false) (CtW.blk W) B0 0 0 rfl rfl PyProof.Rows.boot_int (c_int (blkC C _)) ok_int (da_cons (Rv2 := []) (v_ B0 2 rfl rfl (by decide)) da_nil (fun _ z => z) (fun _ z => nomatch z)))) de_int (fun _ z => z) (fun _ z => nomatch z)) de_int (fun _ z => z) (fun _ z => nomatch z)))) (by decide) (fun _ z => z) (by decide) (by decide) (by decide) (by decide) (by decide) (by decide)) (dss_one (ds_ret (U2 := []) (de_dsp (dp_cons (v_ F 1 rfl rfl (by decide)) (dp_cons de_int (dp_cons de_int (dp_cons de_int (dp_cons (de_op (fr := false) (Rv2 := []) (o_mod C) ok_mod (bt_ (fr := false) W F 1 0 rfl rfl PyProof.Rows.boot_int (c_int C) ok_int (da_cons (Rv2 := []) (bu_ (fr := false) W F 0 1 rfl rfl PyProof.Rows.boot_sum (c_sum C W) ok_sum (da_cons (Rv2 := []) (v_ F 1 rfl rfl (by decide)) da_nil (fun _ z => z) (fun _ z => nomatch z))) da_nil (fun _ z => z) (fun _ z => nomatch z))) de_int (fun _ z => z) (fun _ z => nomatch z)) dp_nil))))) rfl (by decide +kernel)) (by decide) (fun _ _ _ _ _ _ _ h q => kd_fr h q))))
/-! ### _law_draw -/
abbrev s__law_draw : Stmt := top 30
def N__law_draw : List Str := ["state", "many", "cell", "mixed", "number"]
def g__law_draw : List Str := ["len", "int"]
def b__law_draw : List Str := ["len", "int"]
def F__law_draw : Env → Rs Fl := seqS (setS 0 (cstE (.str "count")) (bin2 addD (bin2 ixA (varE 0) (cstE (.str "count"))) (cstE (.int 1)))) (seqS (ifS (asB (bin2 ltA (bin2 ixA (varE 0) (cstE (.str "left"))) (varE 1))) (seqS (asgS 2 (bin2 addD (bin2 ixA (varE 0) (cstE (.str "sum"))) (bin2 ixA (varE 0) (cstE (.str "count"))))) (seqS (ifS (asB (bin2 ltA (bin2 ixA (varE 0) (cstE (.str "at"))) (nary (one lenA) (consA (bin2 ixA (varE 0) (cstE (.str "cells"))) nilA)))) (seqS (asgS 2 (bin2 ixA (bin2 ixA (varE 0) (cstE (.str "cells"))) (bin2 ixA (varE 0) (cstE (.str "at"))))) (setS 0 (cstE (.str "at")) (bin2 addD (bin2 ixA (varE 0) (cstE (.str "at"))) (cstE (.int 1))))) (nilS)) (seqS (ifS (asB (bin2 ltA (varE 2) (bin2 powD (cstE (.int 10)) (cstE (.int 18))))) (seqS (asgS 3 (bin2 modD (nary (one intF) (consA (bin2 addD (bin2 addD (bin2 mulI (varE 2) (cstE (.int 48271))) (bin2 mulI (bin2 ixA (varE 0) (cstE (.str "count"))) (cstE (.int 69621)))) (cstE (.int 12345))) nilA)) (cstE (.int 2305843009213693951)))) (seqS (asgS 3 (bin2 modD (nary (one intF) (consA (bin2 addD (bin2 addD (bin2 mulI (varE 3) (varE 3)) (varE 2)) (bin2 mulI (bin2 ixA (varE 0) (cstE (.str "count"))) (cstE (.int 7919)))) nilA)) (cstE (.int 2305843009213693951)))) (asgS 2 (bin2 modD (nary (one intF) (consA (bin2 addD (bin2 addD (bin2 mulI (bin2 mulI (varE 3) (varE 3)) (cstE (.int 16807))) (bin2 mulI (varE 2) (cstE (.int 40014)))) (cstE (.int 1))) nilA)) (cstE (.int 2305843009213693951)))))) (nilS)) (setS 0 (cstE (.str "left")) (varE 2))))) (nilS)) (seqS (asgS 4 (bin2 modD (nary (one intF) (consA (bin2 ixA (varE 0) (cstE (.str "left"))) nilA)) (varE 1))) (seqS (setS 0 (cstE (.str "left")) (bin2 fdivD (nary (one intF) (consA (bin2 ixA (varE 0) (cstE (.str "left"))) nilA)) (varE 1))) (retS (varE 4)))))
def f__law_draw : List PyData → Rs PyData := runF 5 false F__law_draw
theorem h__law_draw : chkN N__law_draw (defScope s__law_draw) (fun _ => true) [true, true, true, true, true] [false, false, true, true, true] g__law_draw = true := by decide +kernel
theorem d__law_draw {C : Ct} (F : CtF C N__law_draw (defScope s__law_draw) (fun _ => true) [true, true, true, true, true] [false, false, true, true, true] g__law_draw) (W : CtW C b__law_draw [0]) (P : CtP C) : DSs C [0] [] (defBody s__law_draw) F__law_draw [0] ⟨[], [], [0], .cl⟩ :=
  (dss_cons (U1 := [0]) (ds_set (F.at (i := 0) rfl) (F.visP (i := 0) rfl rfl).1 (F.visP (i := 0) rfl rfl).2.1 (F.visP (i := 0) rfl rfl).2.2 W.u1 (de_op (fr := false) (Rv2 := []) (o_add C) ok_add (de_ix (fr := false) (Rv2 := [0]) (o_ix C W) ok_ixA (o_ F 0 rfl rfl (by decide)) de_str (by decide) (fun i z => by cases z; decide)) de_int (fun _ z => z) (fun _ z => nomatch z)) de_str (by decide) (by decide)) (dss_cons (U1 := [0]) (ds_if (U2 := [0]) (dt_cmp (Rv2 := []) (o_lt C W) ok_lt (de_ix (fr := false) (Rv2 := [0]) (o_ix C W) ok_ixA (o_ F 0 rfl rfl (by decide)) de_str (by decide) (fun i z => by cases z; decide)) (v_ F 1 rfl rfl (by decide)) (fun _ z => z) (fun _ z => nomatch z) rfl) (dss_cons (U1 := [0]) (as_ (kd := .cl) (Un := [0]) W F 2 rfl rfl (de_op (fr := false) (Rv2 := []) (o_add C) ok_add (de_ix (fr := false) (Rv2 := [0]) (o_ix C W) ok_ixA (o_ F 0 rfl rfl (by decide)) de_str (by decide) (fun i z => by cases z; decide)) (de_ix (fr := false) (Rv2 := [0]) (o_ix C W) ok_ixA (o_ F 0 rfl rfl (by decide)) de_str (by decide) (fun i z => by cases z; decide)) (fun _ z => z) (fun _ z => nomatch z)) (by decide) (by decide) (fun _ z => nomatch z) (by decide)) (dss_cons (U1 := [0]) (ds_if (U2 := [0]) (dt_cmp (Rv2 := []) (o_lt C W) ok_lt (de_ix (fr := false) (Rv2 := [0]) (o_ix C W) ok_ixA (o_ F 0 rfl rfl (by decide)) de_str (by decide) (fun i z => by cases z; decide)) (bu_ (fr := false) W F 0 0 rfl rfl PySem.boot_len (c_len C) ok_len (da_cons (Rv2 := []) (de_ix (fr := false) (Rv2 := [0]) (o_ix C W) ok_ixA (o_ F 0 rfl rfl (by decide)) de_str (by decide) (fun i z => by cases z; decide)) da_nil (fun _ z => z) (fun _ z => nomatch z))) (fun _ z => z) (fun _ z => nomatch z) rfl) (dss_cons (U1 := [0]) (as_ (kd := .cl) (Un := [0]) W F 2 rfl rfl (de_ix (fr := false) (Rv2 := []) (o_ix C W) ok_ixA (de_ix (fr := false) (Rv2 := [0]) (o_ix C W) ok_ixA (o_ F 0 rfl rfl (by decide)) de_str (by decide) (fun i z => by cases z; decide)) (de_ix (fr := false) (Rv2 := [0]) (o_ix C W) ok_ixA (o_ F 0 rfl rfl (by decide)) de_str (by decide) (fun i z => by cases z; decide)) (fun _ z => z) (fun _ z => nomatch z)) (by decide) (by decide) (fun _ z => nomatch z) (by decide)) (dss_one (ds_set (F.at (i := 0) rfl) (F.visP (i := 0) rfl rfl).1 (F.visP (i := 0) rfl rfl).2.1 (F.visP (i := 0) rfl rfl).2.2 W.u1 (de_op (fr := false) (Rv2 := []) (o_add C) ok_add (de_ix (fr := false) (Rv2 := [0]) (o_ix C W) ok_ixA (o_ F 0 rfl rfl (by decide)) de_str (by decide) (fun i z => by cases z; decide)) de_int (fun _ z => z) (fun _ z => nomatch z)) de_str (by decide) (by decide)))) dss_nil) (dss_cons (U1 := [0]) (ds_if (U2 := [0]) (dt_cmp (Rv2 := []) (o_lt C W) ok_lt (v_ F 2 rfl rfl (by decide)) (de_op (fr := false) (Rv2 := []) (o_pow C) ok_pow de_int de_int (fun _ z => z) (fun _ z => nomatch z)) (fun _ z => z) (fun _ z => nomatch z) rfl) (dss_cons (U1 := [0]) (as_ (kd := .cl) (Un := [0]) W F 3 rfl rfl (de_op (fr := false) (Rv2 := []) (o_mod C) ok_mod (bt_ (fr := false) W F 1 1 rfl rfl PyProof.Rows.boot_int (c_int C) ok_int (da_cons (Rv2 := []) (de_op (fr := false) (Rv2 := []) (o_add C) ok_add (de_op (fr := false) (Rv2 := []) (o_add C) ok_add (de_op (fr := false) (Rv2 := []) (o_mul C) ok_mulI (v_ F 2 rfl rfl (by decide)) de_int (fun _ z => z) (fun _ z => nomatch z)) (de_op (fr := false) (Rv2 := []) (o_mul C) ok_mulI (de_ix (fr := false) (Rv2 := [0]) (o_ix C W) ok_ixA (o_ F 0 rfl rfl (by decide)) de_str (by decide) (fun i z => by cases z; decide)) de_int (fun _ z => z) (fun _ z => nomatch z)) (fun _ z => z) (fun _ z => nomatch z)) de_int (fun _ z => z) (fun _ z => nomatch z)) da_nil (fun _ z => z) (fun _ z => nomatch z))) de_int (fun _ z => z) (fun _ z => nomatch z)) (by decide) (by decide) (fun _ z => nomatch z) (by decide)) (dss_cons (U1 := [0]) (as_ (kd := .cl) (Un := [0]) W F 3 rfl rfl (de_op (fr := false) (Rv2 := []) (o_mod C) ok_mod (bt_ (fr := false) W F 1 1 rfl rfl PyProof.Rows.boot_int (c_int C) ok_int (da_cons (Rv2 := []) (de_op (fr := false) (Rv2 := []) (o_add C) ok_add (de_op (fr := false) (Rv2 := []) (o_add C) ok_add (de_op (fr := false) (Rv2 := []) (o_mul C) ok_mulI (v_ F 3 rfl rfl (by decide)) (v_ F 3 rfl rfl (by decide)) (fun _ z => z) (fun _ z => nomatch z)) (v_ F 2 rfl rfl (by decide)) (fun _ z => z) (fun _ z => nomatch z)) (de_op (fr := false) (Rv2 := []) (o_mul C) ok_mulI (de_ix (fr := false) (Rv2 := [0]) (o_ix C W) ok_ixA (o_ F 0 rfl rfl (by decide)) de_str (by decide) (fun i z => by cases z; decide)) de_int (fun _ z => z) (fun _ z => nomatch z)) (fun _ z => z) (fun _ z => nomatch z)) da_nil (fun _ z => z) (fun _ z => nomatch z))) de_int (fun _ z => z) (fun _ z => nomatch z)) (by decide) (by decide) (fun _ z => nomatch z) (by decide)) (dss_one (as_ (kd := .cl) (Un := [0]) W F 2 rfl rfl (de_op (fr := false) (Rv2 := []) (o_mod C) ok_mod (bt_ (fr := false) W F 1 1 rfl rfl PyProof.Rows.boot_int (c_int C) ok_int (da_cons (Rv2 := []) (de_op (fr := false) (Rv2 := []) (o_add C) ok_add (de_op (fr := false) (Rv2 := []) (o_add C) ok_add (de_op (fr := false) (Rv2 := []) (o_mul C) ok_mulI (de_op (fr := false) (Rv2 := []) (o_mul C) ok_mulI (v_ F 3 rfl rfl (by decide)) (v_ F 3 rfl rfl (by decide)) (fun _ z => z) (fun _ z => nomatch z)) de_int (fun _ z => z) (fun _ z => nomatch z)) (de_op (fr := false) (Rv2 := []) (o_mul C) ok_mulI (v_ F 2 rfl rfl (by decide)) de_int (fun _ z => z) (fun _ z => nomatch z)) (fun _ z => z) (fun _ z => nomatch z)) de_int (fun _ z => z) (fun _ z => nomatch z)) da_nil (fun _ z => z) (fun _ z => nomatch z))) de_int (fun _ z => z) (fun _ z => nomatch z)) (by decide) (by decide) (fun _ z => nomatch z) (by decide))))) dss_nil) (dss_one (ds_set (F.at (i := 0) rfl) (F.visP (i := 0) rfl rfl).1 (F.visP (i := 0) rfl rfl).2.1 (F.visP (i := 0) rfl rfl).2.2 W.u1 (v_ F 2 rfl rfl (by decide)) de_str (by decide) (by decide)))))) dss_nil) (dss_cons (U1 := [0]) (as_ (kd := .cl) (Un := [0]) W F 4 rfl rfl (de_op (fr := false) (Rv2 := []) (o_mod C) ok_mod (bt_ (fr := false) W F 1 1 rfl rfl PyProof.Rows.boot_int (c_int C) ok_int (da_cons (Rv2 := []) (de_ix (fr := false) (Rv2 := [0]) (o_ix C W) ok_ixA (o_ F 0 rfl rfl (by decide)) de_str (by decide) (fun i z => by cases z; decide)) da_nil (fun _ z => z) (fun _ z => nomatch z))) (v_ F 1 rfl rfl (by decide)) (fun _ z => z) (fun _ z => nomatch z)) (by decide) (by decide) (fun _ z => nomatch z) (by decide)) (dss_cons (U1 := [0]) (ds_set (F.at (i := 0) rfl) (F.visP (i := 0) rfl rfl).1 (F.visP (i := 0) rfl rfl).2.1 (F.visP (i := 0) rfl rfl).2.2 W.u1 (de_op (fr := false) (Rv2 := []) (o_fdiv C) ok_fdiv (bt_ (fr := false) W F 1 1 rfl rfl PyProof.Rows.boot_int (c_int C) ok_int (da_cons (Rv2 := []) (de_ix (fr := false) (Rv2 := [0]) (o_ix C W) ok_ixA (o_ F 0 rfl rfl (by decide)) de_str (by decide) (fun i z => by cases z; decide)) da_nil (fun _ z => z) (fun _ z => nomatch z))) (v_ F 1 rfl rfl (by decide)) (fun _ z => z) (fun _ z => nomatch z)) de_str (by decide) (by decide)) (dss_one (ds_ret (U2 := [0]) (v_ F 4 rfl rfl (by decide)) (by decide) (fun _ _ _ _ _ _ _ h q => kd_cl h q)))))))
/-! ### _law_word -/
abbrev s__law_word : Stmt := top 31
def N__law_word : List Str := ["state", "n", "most", "letters", "letter", "at"]
def g__law_word : List Str := ["range", "_law_draw", "tuple"]
def b__law_word : List Str := ["range", "tuple"]
def F__law_word : Env → Rs Fl := seqS (asgS 3 (compE [4] (rng2 (un1 negD (varE 1)) (bin2 addD (varE 1) (cstE (.int 1)))) (nameG 4) (asB (bin2 neD (varE 4) (cstE (.int 0)))) (varE 4))) (retS (nary (one tupF) (consA (compE [5] (rng1 (callM 0 0 f__law_draw [] (consA (varE 0) (consA (bin2 addD (varE 2) (cstE (.int 1))) nilA)))) (nameG 5) (yesB) (bin2 ixA (varE 3) (callM 0 0 f__law_draw [] (consA (varE 0) (consA (bin2 mulI (cstE (.int 2)) (varE 1)) nilA))))) nilA)))
def f__law_word : List PyData → Rs PyData := runF 6 false F__law_word
theorem h__law_word : chkN N__law_word (defScope s__law_word) (fun _ => true) [true, true, true, true, false, false] [false, false, false, true, false, false] g__law_word = true := by decide +kernel
theorem d__law_word {C : Ct} (F : CtF C N__law_word (defScope s__law_word) (fun _ => true) [true, true, true, true, false, false] [false, false, false, true, false, false] g__law_word) (W : CtW C b__law_word [0]) (P : CtP C) (c__law_draw : CalD C "_law_draw" 2 2 [] [0] .cl f__law_draw) : DSs C [0] [] (defBody s__law_word) F__law_word [0] ⟨[], [], [0], .cl⟩ :=
  (dss_cons (U1 := [0]) (asC_ (kd := .cl) (Un := [0]) W F 3 rfl rfl rfl (de_fc (lc_ (own := [("letter", 4)]) (UL := [0]) (Rv2 := []) (vb' := [false, false, false, false, true, false]) (lb' := [false, false, false, false, true, false]) (gs' := []) W F (di_range2 (F.gloP (i := 0) rfl).1 (fun z => W.mg z 0 _ rfl) (de_un (fr := false) (o_neg C) ok_neg (v_ F 1 rfl rfl (by decide))) (de_op (fr := false) (Rv2 := []) (o_add C) ok_add (v_ F 1 rfl rfl (by decide)) de_int (fun _ z => z) (fun _ z => nomatch z))) (by decide +kernel) (by decide +kernel) (fun B0 => (g_ B0 4 rfl rfl)) (fun B0 => (dts_one (dt_cmp (Rv2 := []) (o_ne (blkC C _) (CtW.blk W)) ok_ne (v_ B0 4 rfl rfl (by decide)) de_int (fun _ z => z) (fun _ z => nomatch z) rfl))) (fun B0 => (v_ B0 4 rfl rfl (by decide))) (by decide) (fun _ z => z) (by decide) (by decide) (by decide))) (by decide) (by decide) (fun _ z => nomatch z) (by decide)) (dss_one (ds_ret (U2 := [0]) (bt_ (fr := false) W F 2 1 rfl rfl PyProof.Rows.boot_tuple (c_tup C) ok_tuple (da_cons (Rv2 := []) (de_fc (lc_ (own := [("at", 5)]) (UL := [0]) (Rv2 := []) (vb' := [true, true, false, true, false, false]) (lb' := [false, false, false, false, false, true]) (gs' := ["_law_draw"]) W F (di_range1 (F.gloP (i := 0) rfl).1 (fun z => W.mg z 0 _ rfl) (de_callM c__law_draw (F.gloP (i := 1) rfl).1 (F.gloP (i := 1) rfl).2.1 (da_cons (Rv2 := [0]) (o_ F 0 rfl rfl (by decide)) (da_cons (Rv2 := [0]) (de_op (fr := false) (Rv2 := [0]) (o_add C) ok_add (v_ F 2 rfl rfl (by decide)) de_int (fun _ z => z) (fun _ z => nomatch z)) da_nil (fun _ z => z) (fun _ z => nomatch z)) (by decide) (fun i z => by cases z; decide)) rfl rfl rfl (by decide) (by decide) (fun _ z => nomatch z))) (by decide +kernel) (by decide +kernel) (fun B1 => (g_ B1 5 rfl rfl)) (fun B1 => dts_nil) (fun B1 => (de_ix (fr := false) (Rv2 := []) (o_ix (blkC C _) (CtW.blk W)) ok_ixA (v_ B1 3 rfl rfl (by decide)) (de_callM c__law_draw.blk (B1.gloP (i := 0) rfl).1 (B1.gloP (i := 0) rfl).2.1 (da_cons (Rv2 := [0]) (o_ B1 0 rfl rfl (by decide)) (da_cons (Rv2 := [0]) (de_op (fr := false) (Rv2 := [0]) (o_mul (blkC C _)) ok_mulI de_int (v_ B1 1 rfl rfl (by decide)) (fun _ z => z) (fun _ z => nomatch z)) da_nil (fun _ z => z) (fun _ z => nomatch z)) (by decide) (fun i z => by cases z; decide)) rfl rfl rfl (by decide) (by decide) (fun _ z => nomatch z)) (fun _ z => z) (fun _ z => nomatch z))) (by decide) (fun _ z => z) (by decide) (by decide) (by decide))) da_nil (fun _ z => z) (fun _ z => nomatch z))) (by decide) (fun _ _ _ _ _ _ _ h q => kd_cl h q))))
/-! ### _law_by -/
abbrev s__law_by : Stmt := top 32
def N__law_by : List Str := ["one", "other"]
def g__law_by : List Str := []
def b__law_by : List Str := []
def F__law_by : Env → Rs Fl := retS (tupE (consA (bin2 addD (bin2 mulI (bin2 ixA (varE 0) (cstE (.int 0))) (bin2 ixA (varE 1) (cstE (.int 0)))) (bin2 mulI (bin2 ixA (varE 0) (cstE (.int 1))) (bin2 ixA (varE 1) (cstE (.int 2))))) (consA (bin2 addD (bin2 mulI (bin2 ixA (varE 0) (cstE (.int 0))) (bin2 ixA (varE 1) (cstE (.int 1)))) (bin2 mulI (bin2 ixA (varE 0) (cstE (.int 1))) (bin2 ixA (varE 1) (cstE (.int 3))))) (consA (bin2 addD (bin2 mulI (bin2 ixA (varE 0) (cstE (.int 2))) (bin2 ixA (varE 1) (cstE (.int 0)))) (bin2 mulI (bin2 ixA (varE 0) (cstE (.int 3))) (bin2 ixA (varE 1) (cstE (.int 2))))) (consA (bin2 addD (bin2 mulI (bin2 ixA (varE 0) (cstE (.int 2))) (bin2 ixA (varE 1) (cstE (.int 1)))) (bin2 mulI (bin2 ixA (varE 0) (cstE (.int 3))) (bin2 ixA (varE 1) (cstE (.int 3))))) nilA)))))
def f__law_by : List PyData → Rs PyData := runF 2 false F__law_by
theorem h__law_by : chkN N__law_by (defScope s__law_by) (fun _ => true) [true, true] [false, false] g__law_by = true := by decide +kernel
theorem d__law_by {C : Ct} (F : CtF C N__law_by (defScope s__law_by) (fun _ => true) [true, true] [false, false] g__law_by) (W : CtW C b__law_by []) (P : CtP C) : DSs C [] [] (defBody s__law_by) F__law_by [] ⟨[], [], [], .cl⟩ :=
  (dss_one (ds_ret (U2 := []) (de_tup (da_cons (Rv2 := []) (de_op (fr := false) (Rv2 := []) (o_add C) ok_add (de_op (fr := false) (Rv2 := []) (o_mul C) ok_mulI (de_ix (fr := false) (Rv2 := []) (o_ix C W) ok_ixA (v_ F 0 rfl rfl (by decide)) de_int (fun _ z => z) (fun _ z => nomatch z)) (de_ix (fr := false) (Rv2 := []) (o_ix C W) ok_ixA (v_ F 1 rfl rfl (by decide)) de_int (fun _ z => z) (fun _ z => nomatch z)) (fun _ z => z) (fun _ z => nomatch z)) (de_op (fr := false) (Rv2 := []) (o_mul C) ok_mulI (de_ix (fr := false) (Rv2 := []) (o_ix C W) ok_ixA (v_ F 0 rfl rfl (by decide)) de_int (fun _ z => z) (fun _ z => nomatch z)) (de_ix (fr := false) (Rv2 := []) (o_ix C W) ok_ixA (v_ F 1 rfl rfl (by decide)) de_int (fun _ z => z) (fun _ z => nomatch z)) (fun _ z => z) (fun _ z => nomatch z)) (fun _ z => z) (fun _ z => nomatch z)) (da_cons (Rv2 := []) (de_op (fr := false) (Rv2 := []) (o_add C) ok_add (de_op (fr := false) (Rv2 := []) (o_mul C) ok_mulI (de_ix (fr := false) (Rv2 := []) (o_ix C W) ok_ixA (v_ F 0 rfl rfl (by decide)) de_int (fun _ z => z) (fun _ z => nomatch z)) (de_ix (fr := false) (Rv2 := []) (o_ix C W) ok_ixA (v_ F 1 rfl rfl (by decide)) de_int (fun _ z => z) (fun _ z => nomatch z)) (fun _ z => z) (fun _ z => nomatch z)) (de_op (fr := false) (Rv2 := []) (o_mul C) ok_mulI (de_ix (fr := false) (Rv2 := []) (o_ix C W) ok_ixA (v_ F 0 rfl rfl (by decide)) de_int (fun _ z => z) (fun _ z => nomatch z)) (de_ix (fr := false) (Rv2 := []) (o_ix C W) ok_ixA (v_ F 1 rfl rfl (by decide)) de_int (fun _ z => z) (fun _ z => nomatch z)) (fun _ z => z) (fun _ z => nomatch z)) (fun _ z => z) (fun _ z => nomatch z)) (da_cons (Rv2 := []) (de_op (fr := false) (Rv2 := []) (o_add C) ok_add (de_op (fr := false) (Rv2 := []) (o_mul C) ok_mulI (de_ix (fr := false) (Rv2 := []) (o_ix C W) ok_ixA (v_ F 0 rfl rfl (by decide)) de_int (fun _ z => z) (fun _ z => nomatch z)) (de_ix (fr := false) (Rv2 := []) (o_ix C W) ok_ixA (v_ F 1 rfl rfl (by decide)) de_int (fun _ z => z) (fun _ z => nomatch z)) (fun _ z => z) (fun _ z => nomatch z)) (de_op (fr := false) (Rv2 := []) (o_mul C) ok_mulI (de_ix (fr := false) (Rv2 := []) (o_ix C W) ok_ixA (v_ F 0 rfl rfl (by decide)) de_int (fun _ z => z) (fun _ z => nomatch z)) (de_ix (fr := false) (Rv2 := []) (o_ix C W) ok_ixA (v_ F 1 rfl rfl (by decide)) de_int (fun _ z => z) (fun _ z => nomatch z)) (fun _ z => z) (fun _ z => nomatch z)) (fun _ z => z) (fun _ z => nomatch z)) (da_cons (Rv2 := []) (de_op (fr := false) (Rv2 := []) (o_add C) ok_add (de_op (fr := false) (Rv2 := []) (o_mul C) ok_mulI (de_ix (fr := false) (Rv2 := []) (o_ix C W) ok_ixA (v_ F 0 rfl rfl (by decide)) de_int (fun _ z => z) (fun _ z => nomatch z)) (de_ix (fr := false) (Rv2 := []) (o_ix C W) ok_ixA (v_ F 1 rfl rfl (by decide)) de_int (fun _ z => z) (fun _ z => nomatch z)) (fun _ z => z) (fun _ z => nomatch z)) (de_op (fr := false) (Rv2 := []) (o_mul C) ok_mulI (de_ix (fr := false) (Rv2 := []) (o_ix C W) ok_ixA (v_ F 0 rfl rfl (by decide)) de_int (fun _ z => z) (fun _ z => nomatch z)) (de_ix (fr := false) (Rv2 := []) (o_ix C W) ok_ixA (v_ F 1 rfl rfl (by decide)) de_int (fun _ z => z) (fun _ z => nomatch z)) (fun _ z => z) (fun _ z => nomatch z)) (fun _ z => z) (fun _ z => nomatch z)) da_nil (fun _ z => z) (fun _ z => nomatch z)) (fun _ z => z) (fun _ z => nomatch z)) (fun _ z => z) (fun _ z => nomatch z)) (fun _ z => z) (fun _ z => nomatch z)) rfl) (by decide) (fun _ _ _ _ _ _ _ h q => kd_cl h q)))
/-! ### _law_matrix -/
abbrev s__law_matrix : Stmt := top 33
def N__law_matrix : List Str := ["state", "found", "turn", "n"]
def g__law_matrix : List Str := ["_law_draw", "range", "_law_by"]
def b__law_matrix : List Str := ["range"]
def F__law_matrix : Env → Rs Fl := seqS (asgS 1 (tupE (consA (cstE (.int 1)) (consA (cstE (.int 0)) (consA (cstE (.int 0)) (consA (cstE (.int 1)) nilA)))))) (seqS (forS (rng1 (callM 0 0 f__law_draw [] (consA (varE 0) (consA (cstE (.int 5)) nilA)))) (nameG 2) (seqS (asgS 3 (bin2 subD (callM 0 0 f__law_draw [] (consA (varE 0) (consA (cstE (.int 7)) nilA))) (cstE (.int 3)))) (asgS 1 (callE f__law_by [] (consA (varE 1) (consA (bin2 ixA (lstE (consA (tupE (consA (cstE (.int 1)) (consA (varE 3) (consA (cstE (.int 0)) (consA (cstE (.int 1)) nilA))))) (consA (tupE (consA (cstE (.int 1)) (consA (cstE (.int 0)) (consA (varE 3) (consA (cstE (.int 1)) nilA))))) (consA (tupE (consA (cstE (.int 0)) (consA (un1 negD (cstE (.int 1))) (consA (cstE (.int 1)) (consA (cstE (.int 0)) nilA))))) nilA)))) (callM 0 0 f__law_draw [] (consA (varE 0) (consA (cstE (.int 3)) nilA)))) nilA)))))) (retS (varE 1)))
def f__law_matrix : List PyData → Rs PyData := runF 4 false F__law_matrix
theorem h__law_matrix : chkN N__law_matrix (defScope s__law_matrix) (fun _ => true) [true, true, false, true] [false, true, true, true] g__law_matrix = true := by decide +kernel
theorem d__law_matrix {C : Ct} (F : CtF C N__law_matrix (defScope s__law_matrix) (fun _ => true) [true, true, false, true] [false, true, true, true] g__law_matrix) (W : CtW C b__law_matrix [0]) (P : CtP C) (c__law_draw : CalD C "_law_draw" 2 2 [] [0] .cl f__law_draw) (c__law_by : CalD C "_law_by" 2 2 [] [] .cl f__law_by) : DSs C [0] [] (defBody s__law_matrix) F__law_matrix [0] ⟨[], [], [0], .cl⟩ :=
  (dss_cons (U1 := [0]) (as_ (kd := .cl) (Un := [0]) W F 1 rfl rfl (de_tup (da_cons (Rv2 := []) de_int (da_cons (Rv2 := []) de_int (da_cons (Rv2 := []) de_int (da_cons (Rv2 := []) de_int da_nil (fun _ z => z) (fun _ z => nomatch z)) (fun _ z => z) (fun _ z => nomatch z)) (fun _ z => z) (fun _ z => nomatch z)) (fun _ z => z) (fun _ z => nomatch z)) rfl) (by decide) (by decide) (fun _ z => nomatch z) (by decide)) (dss_cons (U1 := [0]) (fo_ (UL := [0]) (Rv2 := []) W P (di_range1 (F.gloP (i := 1) rfl).1 (fun z => W.mg z 0 _ rfl) (de_callM c__law_draw (F.gloP (i := 0) rfl).1 (F.gloP (i := 0) rfl).2.1 (da_cons (Rv2 := [0]) (o_ F 0 rfl rfl (by decide)) (da_cons (Rv2 := [0]) de_int da_nil (fun _ z => z) (fun _ z => nomatch z)) (by decide) (fun i z => by cases z; decide)) rfl rfl rfl (by decide) (by decide) (fun _ z => nomatch z))) (g_ F 2 rfl rfl) (dss_cons (U1 := [0]) (as_ (kd := .cl) (Un := [0]) W F 3 rfl rfl (de_op (fr := false) (Rv2 := []) (o_sub C) ok_sub (de_callM c__law_draw (F.gloP (i := 0) rfl).1 (F.gloP (i := 0) rfl).2.1 (da_cons (Rv2 := [0]) (o_ F 0 rfl rfl (by decide)) (da_cons (Rv2 := [0]) de_int da_nil (fun _ z => z) (fun _ z => nomatch z)) (by decide) (fun i z => by cases z; decide)) rfl rfl rfl (by decide) (by decide) (fun _ z => nomatch z)) de_int (fun _ z => z) (fun _ z => nomatch z)) (by decide) (by decide) (fun _ z => nomatch z) (by decide)) (dss_one (as_ (kd := .cl) (Un := [0]) W F 1 rfl rfl (de_call c__law_by (F.gloP (i := 2) rfl).1 (F.gloP (i := 2) rfl).2.1 (da_cons (Rv2 := []) (v_ F 1 rfl rfl (by decide)) (da_cons (Rv2 := []) (de_ix (fr := false) (Rv2 := []) (o_ix C W) ok_ixA (de_lst (da_cons (Rv2 := []) (de_tup (da_cons (Rv2 := []) de_int (da_cons (Rv2 := []) (v_ F 3 rfl rfl (by decide)) (da_cons (Rv2 := []) de_int (da_cons (Rv2 := []) de_int da_nil (fun _ z => z) (fun _ z => nomatch z)) (fun _ z => z) (fun _ z => nomatch z)) (fun _ z => z) (fun _ z => nomatch z)) (fun _ z => z) (fun _ z => nomatch z)) rfl) (da_cons (Rv2 := []) (de_tup (da_cons (Rv2 := []) de_int (da_cons (Rv2 := []) de_int (da_cons (Rv2 := []) (v_ F 3 rfl rfl (by decide)) (da_cons (Rv2 := []) de_int da_nil (fun _ z => z) (fun _ z => nomatch z)) (fun _ z => z) (fun _ z => nomatch z)) (fun _ z => z) (fun _ z => nomatch z)) (fun _ z => z) (fun _ z => nomatch z)) rfl) (da_cons (Rv2 := []) (de_tup (da_cons (Rv2 := []) de_int (da_cons (Rv2 := []) (de_un (fr := false) (o_neg C) ok_neg de_int) (da_cons (Rv2 := []) de_int (da_cons (Rv2 := []) de_int da_nil (fun _ z => z) (fun _ z => nomatch z)) (fun _ z => z) (fun _ z => nomatch z)) (fun _ z => z) (fun _ z => nomatch z)) (fun _ z => z) (fun _ z => nomatch z)) rfl) da_nil (fun _ z => z) (fun _ z => nomatch z)) (fun _ z => z) (fun _ z => nomatch z)) (fun _ z => z) (fun _ z => nomatch z)) rfl) (de_callM c__law_draw (F.gloP (i := 0) rfl).1 (F.gloP (i := 0) rfl).2.1 (da_cons (Rv2 := [0]) (o_ F 0 rfl rfl (by decide)) (da_cons (Rv2 := [0]) de_int da_nil (fun _ z => z) (fun _ z => nomatch z)) (by decide) (fun i z => by cases z; decide)) rfl rfl rfl (by decide) (by decide) (fun _ z => nomatch z)) (fun _ z => z) (fun _ z => nomatch z)) da_nil (fun _ z => z) (fun _ z => nomatch z)) (fun _ z => z) (fun _ z => nomatch z)) rfl rfl (fun _ z => nomatch z)) (by decide) (by decide) (fun _ z => nomatch z) (by decide)))) (by decide) (fun _ z => z) (by decide) (by decide)) (dss_one (ds_ret (U2 := [0]) (v_ F 1 rfl rfl (by decide)) (by decide) (fun _ _ _ _ _ _ _ h q => kd_cl h q)))))
/-! ### _law_along -/
abbrev s__law_along : Stmt := top 34
def N__law_along : List Str := ["word", "a", "b", "found", "letter", "one"]
def g__law_along : List Str := ["abs", "_law_by"]
def b__law_along : List Str := ["abs"]
def F__law_along : Env → Rs Fl := seqS (asgS 3 (tupE (consA (cstE (.int 1)) (consA (cstE (.int 0)) (consA (cstE (.int 0)) (consA (cstE (.int 1)) nilA)))))) (seqS (forS (itemsE (varE 0)) (nameG 4) (seqS (asgS 5 (ifE (asB (bin2 eqD (nary (one absD) (consA (varE 4) nilA)) (cstE (.int 1)))) (varE 1) (varE 2))) (asgS 3 (callE f__law_by [] (consA (varE 3) (consA (ifE (asB (bin2 gtD (varE 4) (cstE (.int 0)))) (varE 5) (tupE (consA (bin2 ixA (varE 5) (cstE (.int 3))) (consA (un1 negD (bin2 ixA (varE 5) (cstE (.int 1)))) (consA (un1 negD (bin2 ixA (varE 5) (cstE (.int 2)))) (consA (bin2 ixA (varE 5) (cstE (.int 0))) nilA)))))) nilA)))))) (retS (bin2 addD (bin2 ixA (varE 3) (cstE (.int 0))) (bin2 ixA (varE 3) (cstE (.int 3))))))
def f__law_along : List PyData → Rs PyData := runF 6 false F__law_along
theorem h__law_along : chkN N__law_along (defScope s__law_along) (fun _ => true) [true, true, true, true, true, true] [false, false, false, true, true, true] g__law_along = true := by decide +kernel
theorem d__law_along {C : Ct} (F : CtF C N__law_along (defScope s__law_along) (fun _ => true) [true, true, true, true, true, true] [false, false, false, true, true, true] g__law_along) (W : CtW C b__law_along []) (P : CtP C) (c__law_by : CalD C "_law_by" 2 2 [] [] .cl f__law_by) : DSs C [] [] (defBody s__law_along) F__law_along [] ⟨[], [], [], .cl⟩ :=
  (dss_cons (U1 := []) (as_ (kd := .cl) (Un := []) W F 3 rfl rfl (de_tup (da_cons (Rv2 := []) de_int (da_cons (Rv2 := []) de_int (da_cons (Rv2 := []) de_int (da_cons (Rv2 := []) de_int da_nil (fun _ z => z) (fun _ z => nomatch z)) (fun _ z => z) (fun _ z => nomatch z)) (fun _ z => z) (fun _ z => nomatch z)) (fun _ z => z) (fun _ z => nomatch z)) rfl) (by decide) (by decide) (fun _ z => nomatch z) (by decide)) (dss_cons (U1 := []) (fo_ (UL := []) (Rv2 := []) W P (di_seq (v_ F 0 rfl rfl (by decide))) (g_ F 4 rfl rfl) (dss_cons (U1 := []) (as_ (kd := .cl) (Un := []) W F 5 rfl rfl (de_if (dt_cmp (Rv2 := []) (o_eq C W) ok_eq (bu_ (fr := false) W F 0 0 rfl rfl DV.boot_abs (c_abs C) ok_abs (da_cons (Rv2 := []) (v_ F 4 rfl rfl (by decide)) da_nil (fun _ z => z) (fun _ z => nomatch z))) de_int (fun _ z => z) (fun _ z => nomatch z) rfl) (v_ F 1 rfl rfl (by decide)) (v_ F 2 rfl rfl (by decide))) (by decide) (by decide) (fun _ z => nomatch z) (by decide)) (dss_one (as_ (kd := .cl) (Un := []) W F 3 rfl rfl (de_call c__law_by (F.gloP (i := 1) rfl).1 (F.gloP (i := 1) rfl).2.1 (da_cons (Rv2 := []) (v_ F 3 rfl rfl (by decide)) (da_cons (Rv2 := []) (de_if (dt_cmp (Rv2 := []) (o_gt C) ok_cmpI (v_ F 4 rfl rfl (by decide)) de_int (fun _ z => z) (fun _ z => nomatch z) rfl) (v_ F 5 rfl rfl (by decide)) (de_tup (da_cons (Rv2 := []) (de_ix (fr := false) (Rv2 := []) (o_ix C W) ok_ixA (v_ F 5 rfl rfl (by decide)) de_int (fun _ z => z) (fun _ z => nomatch z)) (da_cons (Rv2 := []) (de_un (fr := false) (o_neg C) ok_neg (de_ix (fr := false) (Rv2 := []) (o_ix C W) ok_ixA (v_ F 5 rfl rfl (by decide)) de_int (fun _ z => z) (fun _ z => nomatch z))) (da_cons (Rv2 := []) (de_un (fr := false) (o_neg C) ok_neg (de_ix (fr := false) (Rv2 := []) (o_ix C W) ok_ixA (v_ F 5 rfl rfl (by decide)) de_int (fun _ z => z) (fun _ z => nomatch z))) (da_cons (Rv2 := []) (de_ix (fr := false) (Rv2 := []) (o_ix C W) ok_ixA (v_ F 5 rfl rfl (by decide)) de_int (fun _ z => z) (fun _ z => nomatch z)) da_nil (fun _ z => z) (fun _ z => nomatch z)) (fun _ z => z) (fun _ z => nomatch z)) (fun _ z => z) (fun _ z => nomatch z)) (fun _ z => z) (fun _ z => nomatch z)) rfl)) da_nil (fun _ z => z) (fun _ z => nomatch z)) (fun _ z => z) (fun _ z => nomatch z)) rfl rfl (fun _ z => nomatch z)) (by decide) (by decide) (fun _ z => nomatch z) (by decide)))) (by decide) (fun _ z => z) (by decide) (by decide)) (dss_one (ds_ret (U2 := []) (de_op (fr := false) (Rv2 := []) (o_add C) ok_add (de_ix (fr := false) (Rv2 := []) (o_ix C W) ok_ixA (v_ F 3 rfl rfl (by decide)) de_int (fun _ z => z) (fun _ z => nomatch z)) (de_ix (fr := false) (Rv2 := []) (o_ix C W) ok_ixA (v_ F 3 rfl rfl (by decide)) de_int (fun _ z => z) (fun _ z => nomatch z)) (fun _ z => z) (fun _ z => nomatch z)) (by decide) (fun _ _ _ _ _ _ _ h q => kd_cl h q)))))
/-! ### _law_no_polynomials -/
abbrev s__law_no_polynomials : Stmt := top 35
def N__law_no_polynomials : List Str := ["told", "row", "found"]
def g__law_no_polynomials : List Str := ["len", "list"]
def b__law_no_polynomials : List Str := ["len", "list"]
def F__law_no_polynomials : Env → Rs Fl := seqS (par2S 1 2 (tupE (consA (tupE (consA (cstE (.int 0)) (consA (cstE (.int 0)) (consA (cstE (.int 0)) nilA)))) (consA (cstE (.int 2)) nilA))) (lstE (consA (cstE .none) (consA (cstE (.int 3)) (consA (cstE (.str "12")) (consA (tupE (consA (tupE (consA (tupE (consA (cstE (.int 0)) (consA (cstE (.int 0)) (consA (cstE (.int 0)) nilA)))) (consA (cstE (.int 0)) nilA))) nilA)) (consA (tupE (consA (tupE (consA (tupE (consA (cstE (.int 0)) (consA (cstE (.int 0)) nilA))) (consA (cstE (.int 1)) nilA))) nilA)) (consA (tupE (consA (tupE (consA (tupE (consA (cstE (.int 0)) (consA (cstE (.int 0)) (consA (un1 negD (cstE (.int 1))) nilA)))) (consA (cstE (.int 1)) nilA))) nilA)) (consA (tupE (consA (tupE (consA (cstE (.int 1)) (consA (cstE (.int 1)) nilA))) nilA)) (consA (tupE (consA (tupE (consA (tupE (consA (cstE (.int 0)) (consA (cstE (.int 0)) (consA (cstE (.int 0)) nilA)))) (consA (cstE (.bool true)) nilA))) nilA)) nilA)))))))))) (seqS (asgS 2 (bin2 addD (varE 2) (lstE (consA (lstE (consA (varE 1) nilA)) (consA (tupE (consA (varE 1) (consA (varE 1) nilA))) (consA (tupE (consA (tupE (consA (tupE (consA (cstE (.int 0)) (consA (cstE (.int 0)) (consA (cstE (.int 1)) nilA)))) (consA (cstE (.int 1)) nilA))) (consA (varE 1) nilA))) (consA (varE 1) (consA (tupE (consA (tupE (consA (varE 1) (consA (varE 1) nilA))) nilA)) (consA (tupE (consA (tupE (consA (tupE (consA (cstE (.int 0)) (consA (cstE (.int 0)) (consA (cstE (.bool true)) nilA)))) (consA (cstE (.int 1)) nilA))) nilA)) (consA (tupE (consA (tupE (consA (tupE (consA (cstE (.int 0)) (consA (cstE (.int 0)) (consA (cstE (.int 0)) nilA)))) (consA (cstE .none) nilA))) nilA)) (consA (tupE (consA (tupE (consA (lstE (consA (cstE (.int 0)) (consA (cstE (.int 0)) (consA (cstE (.int 0)) nilA)))) (consA (cstE (.int 1)) nilA))) nilA)) nilA))))))))))) (retS (bin2 addD (varE 2) (lstE (consA (ifE (asB (bin2 gtD (nary (one lenA) (consA (varE 0) nilA)) (cstE (.int 1)))) (un1 revD (varE 0)) (cstE .none)) (consA (nary (one lstF) (consA (varE 0) nilA)) (consA (ifE (asB (bin2 gtD (nary (one lenA) (consA (varE 0) nilA)) (cstE (.int 0)))) (bin2 addD (varE 0) (tupE (consA (varE 1) nilA))) (cstE (.int 0))) nilA)))))))
def f__law_no_polynomials : List PyData → Rs PyData := runF 3 false F__law_no_polynomials
theorem h__law_no_polynomials : chkN N__law_no_polynomials (defScope s__law_no_polynomials) (fun _ => true) [true, true, true] [false, true, true] g__law_no_polynomials = true := by decide +kernel
theorem d__law_no_polynomials {C : Ct} (F : CtF C N__law_no_polynomials (defScope s__law_no_polynomials) (fun _ => true) [true, true, true] [false, true, true] g__law_no_polynomials) (W : CtW C b__law_no_polynomials []) (P : CtP C) : DSs C [] [] (defBody s__law_no_polynomials) F__law_no_polynomials [] ⟨[], [], [], .cl⟩ :=
  (dss_cons (U1 := []) (p2_ (k1 := .cl) (k2 := .cl) (Un := []) W F 1 2 rfl rfl (by decide) rfl rfl rfl (by decide +kernel) (de_tup (da_cons (Rv2 := []) (de_tup (da_cons (Rv2 := []) de_int (da_cons (Rv2 := []) de_int (da_cons (Rv2 := []) de_int da_nil (fun _ z => z) (fun _ z => nomatch z)) (fun _ z => z) (fun _ z => nomatch z)) (fun _ z => z) (fun _ z => nomatch z)) rfl) (da_cons (Rv2 := []) de_int da_nil (fun _ z => z) (fun _ z => nomatch z)) (fun _ z => z) (fun _ z => nomatch z)) rfl) (de_fc (de_lst (da_cons (Rv2 := []) de_non (da_cons (Rv2 := []) de_int (da_cons (Rv2 := []) de_str (da_cons (Rv2 := []) (de_tup (da_cons (Rv2 := []) (de_tup (da_cons (Rv2 := []) (de_tup (da_cons (Rv2 := []) de_int (da_cons (Rv2 := []) de_int (da_cons (Rv2 := []) de_int da_nil (fun _ z => z) (fun _ z => nomatch z)) (fun _ z => z) (fun _ z => nomatch z)) (fun _ z => z) (fun _ z => nomatch z)) rfl) (da_cons (Rv2 := []) de_int da_nil (fun _ z => z) (fun _ z => nomatch z)) (fun _ z => z) (fun _ z => nomatch z)) rfl) da_nil (fun _ z => z) (fun _ z => nomatch z)) rfl) (da_cons (Rv2 := []) (de_tup (da_cons (Rv2 := []) (de_tup (da_cons (Rv2 := []) (de_tup (da_cons (Rv2 := []) de_int (da_cons (Rv2 := []) de_int da_nil (fun _ z => z) (fun _ z => nomatch z)) (fun _ z => z) (fun _ z => nomatch z)) rfl) (da_cons (Rv2 := []) de_int da_nil (fun _ z => z) (fun _ z => nomatch z)) (fun _ z => z) (fun _ z => nomatch z)) rfl) da_nil (fun _ z => z) (fun _ z => nomatch z)) rfl) (da_cons (Rv2 := []) (de_tup (da_cons (Rv2 := []) (de_tup (da_cons (Rv2 := []) (de_tup (da_cons (Rv2 := []) de_int (da_cons (Rv2 := []) de_int (da_cons (Rv2 := []) (de_un (fr := false) (o_neg C) ok_neg de_int) da_nil (fun _ z => z) (fun _ z => nomatch z)) (fun _ z => z) (fun _ z => nomatch z)) (fun _ z => z) (fun _ z => nomatch z)) rfl) (da_cons (Rv2 := []) de_int da_nil (fun _ z => z) (fun _ z => nomatch z)) (fun _ z => z) (fun _ z => nomatch z)) rfl) da_nil (fun _ z => z) (fun _ z => nomatch z)) rfl) (da_cons (Rv2 := []) (de_tup (da_cons (Rv2 := []) (de_tup (da_cons (Rv2 := []) de_int (da_cons (Rv2 := []) de_int da_nil (fun _ z => z) (fun _ z => nomatch z)) (fun _ z => z) (fun _ z => nomatch z)) rfl) da_nil (fun _ z => z) (fun _ z => nomatch z)) rfl) (da_cons (Rv2 := []) (de_tup (da_cons (Rv2 := []) (de_tup (da_cons (Rv2 := []) (de_tup (da_cons (Rv2 := []) de_int (da_cons (Rv2 := []) de_int (da_cons (Rv2 := []) de_int da_nil (fun _ z => z) (fun _ z => nomatch z)) (fun _ z => z) (fun _ z => nomatch z)) (fun _ z => z) (fun _ z => nomatch z)) rfl) (da_cons (Rv2 := []) de_bl da_nil (fun _ z => z) (fun _ z => nomatch z)) (fun _ z => z) (fun _ z => nomatch z)) rfl) da_nil (fun _ z => z) (fun _ z => nomatch z)) rfl) da_nil (fun _ z => z) (fun _ z => nomatch z)) (fun _ z => z) (fun _ z => nomatch z)) (fun _ z => z) (fun _ z => nomatch z)) (fun _ z => z) (fun _ z => nomatch z)) (fun _ z => z) (fun _ z => nomatch z)) (fun _ z => z) (fun _ z => nomatch z)) (fun _ z => z) (fun _ z => nomatch z)) (fun _ z => z) (fun _ z => nomatch z)) rfl)) (fun _ z => nomatch z) (fun _ z => nomatch z) (by decide) (by decide) (by decide)) (dss_cons (U1 := []) (as_ (kd := .cl) (Un := []) W F 2 rfl rfl (de_op (fr := false) (Rv2 := []) (o_add C) ok_add (v_ F 2 rfl rfl (by decide)) (de_lst (da_cons (Rv2 := []) (de_fc (de_lst (da_cons (Rv2 := []) (v_ F 1 rfl rfl (by decide)) da_nil (fun _ z => z) (fun _ z => nomatch z)) rfl)) (da_cons (Rv2 := []) (de_tup (da_cons (Rv2 := []) (v_ F 1 rfl rfl (by decide)) (da_cons (Rv2 := []) (v_ F 1 rfl rfl (by decide)) da_nil (fun _ z => z) (fun _ z => nomatch z)) (fun _ z => z) (fun _ z => nomatch z)) rfl) (da_cons (Rv2 := []) (de_tup (da_cons (Rv2 := []) (de_tup (da_cons (Rv2 := []) (de_tup (da_cons (Rv2 := []) de_int (da_cons (Rv2 := []) de_int (da_cons (Rv2 := []) de_int da_nil (fun _ z => z) (fun _ z => nomatch z)) (fun _ z => z) (fun _ z => nomatch z)) (fun _ z => z) (fun _ z => nomatch z)) rfl) (da_cons (Rv2 := []) de_int da_nil (fun _ z => z) (fun _ z => nomatch z)) (fun _ z => z) (fun _ z => nomatch z)) rfl) (da_cons (Rv2 := []) (v_ F 1 rfl rfl (by decide)) da_nil (fun _ z => z) (fun _ z => nomatch z)) (fun _ z => z) (fun _ z => nomatch z)) rfl) (da_cons (Rv2 := []) (v_ F 1 rfl rfl (by decide)) (da_cons (Rv2 := []) (de_tup (da_cons (Rv2 := []) (de_tup (da_cons (Rv2 := []) (v_ F 1 rfl rfl (by decide)) (da_cons (Rv2 := []) (v_ F 1 rfl rfl (by decide)) da_nil (fun _ z => z) (fun _ z => nomatch z)) (fun _ z => z) (fun _ z => nomatch z)) rfl) da_nil (fun _ z => z) (fun _ z => nomatch z)) rfl) (da_cons (Rv2 := []) (de_tup (da_cons (Rv2 := []) (de_tup (da_cons (Rv2 := []) (de_tup (da_cons (Rv2 := []) de_int (da_cons (Rv2 := []) de_int (da_cons (Rv2 := []) de_bl da_nil (fun _ z => z) (fun _ z => nomatch z)) (fun _ z => z) (fun _ z => nomatch z)) (fun _ z => z) (fun _ z => nomatch z)) rfl) (da_cons (Rv2 := []) de_int da_nil (fun _ z => z) (fun _ z => nomatch z)) (fun _ z => z) (fun _ z => nomatch z)) rfl) da_nil (fun _ z => z) (fun _ z => nomatch z)) rfl) (da_cons (Rv2 := []) (de_tup (da_cons (Rv2 := []) (de_tup (da_cons (Rv2 := []) (de_tup (da_cons (Rv2 := []) de_int (da_cons (Rv2 := []) de_int (da_cons (Rv2 := []) de_int da_nil (fun _ z => z) (fun _ z => nomatch z)) (fun _ z => z) (fun _ z => nomatch z)) (fun _ z => z) (fun _ z => nomatch z)) rfl) (da_cons (Rv2 := []) de_non da_nil (fun _ z => z) (fun _ z => nomatch z)) (fun _ z => z) (fun _ z => nomatch z)) rfl) da_nil (fun _ z => z) (fun _ z => nomatch z)) rfl) (da_cons (Rv2 := []) (de_tup (da_cons (Rv2 := []) (de_tup (da_cons (Rv2 := []) (de_fc (de_lst (da_cons (Rv2 := []) de_int (da_cons (Rv2 := []) de_int (da_cons (Rv2 := []) de_int da_nil (fun _ z => z) (fun _ z => nomatch z)) (fun _ z => z) (fun _ z => nomatch z)) (fun _ z => z) (fun _ z => nomatch z)) rfl)) (da_cons (Rv2 := []) de_int da_nil (fun _ z => z) (fun _ z => nomatch z)) (fun _ z => z) (fun _ z => nomatch z)) rfl) da_nil (fun _ z => z) (fun _ z => nomatch z)) rfl) da_nil (fun _ z => z) (fun _ z => nomatch z)) (fun _ z => z) (fun _ z => nomatch z)) (fun _ z => z) (fun _ z => nomatch z)) (fun _ z => z) (fun _ z => nomatch z)) (fun _ z => z) (fun _ z => nomatch z)) (fun _ z => z) (fun _ z => nomatch z)) (fun _ z => z) (fun _ z => nomatch z)) (fun _ z => z) (fun _ z => nomatch z)) rfl) (fun _ z => z) (fun _ z => nomatch z)) (by decide) (by decide) (fun _ z => nomatch z) (by decide)) (dss_one (ds_ret (U2 := []) (de_op (fr := false) (Rv2 := []) (o_add C) ok_add (v_ F 2 rfl rfl (by decide)) (de_lst (da_cons (Rv2 := []) (de_if (dt_cmp (Rv2 := []) (o_gt C) ok_cmpI (bu_ (fr := false) W F 0 0 rfl rfl PySem.boot_len (c_len C) ok_len (da_cons (Rv2 := []) (v_ F 0 rfl rfl (by decide)) da_nil (fun _ z => z) (fun _ z => nomatch z))) de_int (fun _ z => z) (fun _ z => nomatch z) rfl) (de_rev (v_ F 0 rfl rfl (by decide))) de_non) (da_cons (Rv2 := []) (de_fc (bt_ (fr := true) W F 1 1 rfl rfl PyProof.Rows.boot_list (c_lst C) ok_list (da_cons (Rv2 := []) (v_ F 0 rfl rfl (by decide)) da_nil (fun _ z => z) (fun _ z => nomatch z)))) (da_cons (Rv2 := []) (de_if (dt_cmp (Rv2 := []) (o_gt C) ok_cmpI (bu_ (fr := false) W F 0 0 rfl rfl PySem.boot_len (c_len C) ok_len (da_cons (Rv2 := []) (v_ F 0 rfl rfl (by decide)) da_nil (fun _ z => z) (fun _ z => nomatch z))) de_int (fun _ z => z) (fun _ z => nomatch z) rfl) (de_op (fr := false) (Rv2 := []) (o_add C) ok_add (v_ F 0 rfl rfl (by decide)) (de_tup (da_cons (Rv2 := []) (v_ F 1 rfl rfl (by decide)) da_nil (fun _ z => z) (fun _ z => nomatch z)) rfl) (fun _ z => z) (fun _ z => nomatch z)) de_int) da_nil (fun _ z => z) (fun _ z => nomatch z)) (fun _ z => z) (fun _ z => nomatch z)) (fun _ z => z) (fun _ z => nomatch z)) rfl) (fun _ z => z) (fun _ z => nomatch z)) (by decide) (fun _ _ _ _ _ _ _ h q => kd_cl h q)))))
/-! ### law -/
abbrev s_law : Stmt := top 36
def N_law : List Str := ["script", "state", "turn", "word", "told", "step", "a", "b", "both", "x", "y", "z", "due", "at", "back", "letter", "longer", "other", "bad"]
def g_law : List Str := ["_law_begin", "range", "_law_word", "trace_of", "is_polynomial", "repr", "_law_no_polynomials", "any", "_law_matrix", "_law_by", "_law_along", "value_of", "_law_draw", "len", "tuple", "reduced"]
def b_law : List Str := ["range", "repr", "any", "len", "tuple"]
def F_law : Env → Rs Fl := seqS (asgS 1 (callE f__law_begin [] (consA (varE 0) nilA))) (seqS (forS (rng1 (cstE (.int 4))) (nameG 2) (seqS (asgS 3 (callM 0 1 f__law_word [] (consA (varE 1) (consA (cstE (.int 2)) (consA (cstE (.int 12)) nilA))))) (seqS (asgS 4 (callKE [0] f_trace_of nilA (consA (varE 3) nilA))) (seqS (ifS (orB (asB (bin2 notBD (callKE [0] f_is_polynomial nilA (consA (varE 4) nilA)) (cstE (.bool true)))) (asB (bin2 neD (nary (one reprF) (consA (callE f_trace_of [] (consA (varE 3) nilA)) nilA)) (nary (one reprF) (consA (varE 4) nilA))))) (retS (cstE (.bool false))) (nilS)) (seqS (ifS (orB (asB (nary (one anyD) (consA (compE [18] (itemsE (callE f__law_no_polynomials [] (consA (varE 4) nilA))) (nameG 18) (yesB) (bin2 notBD (callE f_is_polynomial [] (consA (varE 18) nilA)) (cstE (.bool false)))) nilA))) (asB (bin2 notBD (callE f_is_polynomial [] (consA (tupE (consA (tupE (consA (tupE (consA (bin2 powD (cstE (.int 10)) (cstE (.int 60))) (consA (cstE (.int 0)) (consA (cstE (.int 0)) nilA)))) (consA (bin2 powD (cstE (.int 10)) (cstE (.int 60))) nilA))) nilA)) nilA)) (cstE (.bool true))))) (retS (cstE (.bool false))) (nilS)) (seqS (forS (rng1 (cstE (.int 3))) (nameG 5) (seqS (par2S 6 7 (callM 0 1 f__law_matrix [] (consA (varE 1) nilA)) (callM 0 1 f__law_matrix [] (consA (varE 1) nilA))) (seqS (asgS 8 (callE f__law_by [] (consA (varE 6) (consA (varE 7) nilA)))) (seqS (par3S 9 10 11 (consA (bin2 addD (bin2 ixA (varE 6) (cstE (.int 0))) (bin2 ixA (varE 6) (cstE (.int 3)))) (consA (bin2 addD (bin2 ixA (varE 7) (cstE (.int 0))) (bin2 ixA (varE 7) (cstE (.int 3)))) (consA (bin2 addD (bin2 ixA (varE 8) (cstE (.int 0))) (bin2 ixA (varE 8) (cstE (.int 3)))) nilA)))) (seqS (asgS 12 (callE f__law_along [] (consA (varE 3) (consA (varE 6) (consA (varE 7) nilA))))) (ifS (orB (asB (bin2 neD (nary (one reprF) (consA (callE f_value_of [] (consA (varE 4) (consA (varE 9) (consA (varE 10) (consA (varE 11) nilA))))) nilA)) (nary (one reprF) (consA (varE 12) nilA)))) (asB (bin2 neD (callKE [3, 2, 1, 0] f_value_of nilA (consA (varE 11) (consA (varE 10) (consA (varE 9) (consA (varE 4) nilA))))) (varE 12)))) (retS (cstE (.bool false))) (nilS))))))) (seqS (asgS 13 (callM 0 1 f__law_draw [] (consA (varE 1) (consA (bin2 addD (nary (one lenA) (consA (varE 3) nilA)) (cstE (.int 1))) nilA)))) (seqS (asgS 14 (nary (one tupF) (consA (compE [15] (itemsE (un1 revD (varE 3))) (nameG 15) (yesB) (un1 negD (varE 15))) nilA))) (seqS (asgS 15 (bin2 ixA (lstE (consA (cstE (.int 1)) (consA (un1 negD (cstE (.int 1))) (consA (cstE (.int 2)) (consA (un1 negD (cstE (.int 2))) nilA))))) (callM 0 1 f__law_draw [] (consA (varE 1) (consA (cstE (.int 4)) nilA))))) (seqS (asgS 16 (bin2 addD (bin2 addD (sliceE (varE 3) (noO) (someO (varE 13))) (tupE (consA (varE 15) (consA (un1 negD (varE 15)) nilA)))) (sliceE (varE 3) (someO (varE 13)) (noO)))) (seqS (forS (itemsE (bin2 addD (lstE (consA (bin2 addD (sliceE (varE 3) (someO (varE 13)) (noO)) (sliceE (varE 3) (noO) (someO (varE 13)))) (consA (varE 14) (consA (callE f_reduced [] (consA (cstE (.int 2)) (consA (varE 3) nilA))) nilA)))) (ifE (asB (bin2 ltA (nary (one lenA) (consA (varE 3) nilA)) (cstE (.int 11)))) (lstE (consA (varE 16) nilA)) (lstE (nilA))))) (nameG 17) (ifS (asB (bin2 neD (nary (one reprF) (consA (callE f_trace_of [] (consA (varE 17) nilA)) nilA)) (nary (one reprF) (consA (varE 4) nilA)))) (retS (cstE (.bool false))) (nilS))) (ifS (andB (asB (bin2 ltA (nary (one lenA) (consA (varE 3) nilA)) (cstE (.int 11)))) (asB (bin2 neD (nary (one reprF) (consA (callE f_trace_of [] (consA (bin2 addD (bin2 addD (tupE (consA (varE 15) nilA)) (varE 3)) (tupE (consA (un1 negD (varE 15)) nilA))) nilA)) nilA)) (nary (one reprF) (consA (varE 4) nilA))))) (retS (cstE (.bool false))) (nilS))))))))))))) (retS (cstE (.bool true))))
def f_law : List PyData → Rs PyData := runF 19 false F_law
theorem h_law : chkN N_law (defScope s_law) (fun _ => true) [true, true, false, true, true, false, true, true, true, true, true, true, true, true, true, true, true, true, false] [false, true, true, true, true, true, true, true, true, true, true, true, true, true, true, true, true, true, false] g_law = true := by decide +kernel
theorem d_law {C : Ct} (F : CtF C N_law (defScope s_law) (fun _ => true) [true, true, false, true, true, false, true, true, true, true, true, true, true, true, true, true, true, true, false] [false, true, true, true, true, true, true, true, true, true, true, true, true, true, true, true, true, true, false] g_law) (W : CtW C b_law []) (P : CtP C) (c__law_begin : CalD C "_law_begin" 1 1 [] [] .fr f__law_begin) (c__law_word : CalD C "_law_word" 3 3 [] [0] .cl f__law_word) (c_trace_of : CalD C "trace_of" 1 1 [] [] .cl f_trace_of) (c__law_no_polynomials : CalD C "_law_no_polynomials" 1 1 [] [] .cl f__law_no_polynomials) (c_is_polynomial : CalD C "is_polynomial" 1 1 [] [] .cl f_is_polynomial) (c__law_matrix : CalD C "_law_matrix" 1 1 [] [0] .cl f__law_matrix) (c__law_by : CalD C "_law_by" 2 2 [] [] .cl f__law_by) (c__law_along : CalD C "_law_along" 3 3 [] [] .cl f__law_along) (c_value_of : CalD C "value_of" 4 4 [] [] .cl f_value_of) (c__law_draw : CalD C "_law_draw" 2 2 [] [0] .cl f__law_draw) (c_reduced : CalD C "reduced" 2 2 [] [] .cl f_reduced) (k_trace_of_word : CalK C "trace_of" 1 0 ["word"] [0] .cl f_trace_of) (k_is_polynomial_value : CalK C "is_polynomial" 1 0 ["value"] [0] .cl f_is_polynomial) (k_value_of_z_y_x_polynomial : CalK C "value_of" 4 0 ["z", "y", "x", "polynomial"] [3, 2, 1, 0] .cl f_value_of) : DSs C [] [] (defBody s_law) F_law [] ⟨[], [], [], .cl⟩ :=
  (dss_cons (U1 := [1]) (as_ (kd := .fr) (Un := [1]) W F 1 rfl rfl (de_call c__law_begin (F.gloP (i := 0) rfl).1 (F.gloP (i := 0) rfl).2.1 (da_cons (Rv2 := []) (v_ F 0 rfl rfl (by decide)) da_nil (fun _ z => z) (fun _ z => nomatch z)) rfl rfl (fun _ z => nomatch z)) (by decide) (by decide) (fun _ z => nomatch z) (by decide)) (dss_cons (U1 := [1]) (fo_ (UL := [1]) (Rv2 := []) W P (di_range1 (F.gloP (i := 1) rfl).1 (fun z => W.mg z 0 _ rfl) de_int) (g_ F 2 rfl rfl) (dss_cons (U1 := [1]) (as_ (kd := .cl) (Un := [1]) W F 3 rfl rfl (de_callM c__law_word (F.gloP (i := 2) rfl).1 (F.gloP (i := 2) rfl).2.1 (da_cons (Rv2 := [1]) (o_ F 1 rfl rfl (by decide)) (da_cons (Rv2 := [1]) de_int (da_cons (Rv2 := [1]) de_int da_nil (fun _ z => z) (fun _ z => nomatch z)) (fun _ z => z) (fun _ z => nomatch z)) (by decide) (fun i z => by cases z; decide)) rfl rfl rfl (by decide) (by decide) (fun _ z => nomatch z)) (by decide) (by decide) (fun _ z => nomatch z) (by decide)) (dss_cons (U1 := [1]) (as_ (kd := .cl) (Un := [1]) W F 4 rfl rfl (de_callK0 k_trace_of_word (F.gloP (i := 3) rfl).1 (F.gloP (i := 3) rfl).2.1 (dk_cons (Rv2 := []) (v_ F 3 rfl rfl (by decide)) dk_nil (fun _ z => z) (fun _ z => nomatch z)) rfl rfl (fun _ z => nomatch z)) (by decide) (by decide) (fun _ z => nomatch z) (by decide)) (dss_cons (U1 := [1]) (ds_if (U2 := [1]) (DT.w (dw_or (dt_cmp (Rv2 := []) (o_noB C) ok_bb (de_callK0 k_is_polynomial_value (F.gloP (i := 4) rfl).1 (F.gloP (i := 4) rfl).2.1 (dk_cons (Rv2 := []) (v_ F 4 rfl rfl (by decide)) dk_nil (fun _ z => z) (fun _ z => nomatch z)) rfl rfl (fun _ z => nomatch z)) de_bl (fun _ z => z) (fun _ z => nomatch z) rfl) (dw_or1 (dt_cmp (Rv2 := []) (o_ne C W) ok_ne (bu_ (fr := false) W F 5 1 rfl rfl PyProof.Rows.boot_repr (c_rep C W) ok_repr (da_cons (Rv2 := []) (de_call c_trace_of (F.gloP (i := 3) rfl).1 (F.gloP (i := 3) rfl).2.1 (da_cons (Rv2 := []) (v_ F 3 rfl rfl (by decide)) da_nil (fun _ z => z) (fun _ z => nomatch z)) rfl rfl (fun _ z => nomatch z)) da_nil (fun _ z => z) (fun _ z => nomatch z))) (bu_ (fr := false) W F 5 1 rfl rfl PyProof.Rows.boot_repr (c_rep C W) ok_repr (da_cons (Rv2 := []) (v_ F 4 rfl rfl (by decide)) da_nil (fun _ z => z) (fun _ z => nomatch z))) (fun _ z => z) (fun _ z => nomatch z) rfl)))) (dss_one (ds_ret (U2 := [1]) de_bl (by decide) (fun _ _ _ _ _ _ _ h q => kd_cl h q))) dss_nil) (dss_cons (U1 := [1]) (ds_if (U2 := [1]) (DT.w (dw_or (dt_val (bu_ (fr := false) W F 7 2 rfl rfl DV.boot_any' (c_any C W) ok_any (da_cons (Rv2 := []) (de_fc (lc_ (own := [("bad", 18)]) (UL := [1]) (Rv2 := []) (vb' := [false, false, false, false, false, false, false, false, false, false, false, false, false, false, false, false, false, false, true]) (lb' := [false, false, false, false, false, false, false, false, false, false, false, false, false, false, false, false, false, false, true]) (gs' := ["is_polynomial"]) W F (di_seq (de_call c__law_no_polynomials (F.gloP (i := 6) rfl).1 (F.gloP (i := 6) rfl).2.1 (da_cons (Rv2 := []) (v_ F 4 rfl rfl (by decide)) da_nil (fun _ z => z) (fun _ z => nomatch z)) rfl rfl (fun _ z => nomatch z))) (by decide +kernel) (by decide +kernel) (fun B0 => (g_ B0 18 rfl rfl)) (fun B0 => dts_nil) (fun B0 => (de_cmp (fr := false) (Rv2 := []) (o_noB (blkC C _)) ok_bb (de_call c_is_polynomial.blk (B0.gloP (i := 0) rfl).1 (B0.gloP (i := 0) rfl).2.1 (da_cons (Rv2 := []) (v_ B0 18 rfl rfl (by decide)) da_nil (fun _ z => z) (fun _ z => nomatch z)) rfl rfl (fun _ z => nomatch z)) de_bl (fun _ z => z) (fun _ z => nomatch z) rfl)) (by decide) (fun _ z => z) (by decide) (by decide) (by decide))) da_nil (fun _ z => z) (fun _ z => nomatch z)))) (dw_or1 (dt_cmp (Rv2 := []) (o_noB C) ok_bb (de_call c_is_polynomial (F.gloP (i := 4) rfl).1 (F.gloP (i := 4) rfl).2.1 (da_cons (Rv2 := []) (de_tup (da_cons (Rv2 := []) (de_tup (da_cons (Rv2 := []) (de_tup (da_cons (Rv2 := []) (de_op (fr := false) (Rv2 := []) (o_pow C) ok_pow de_int de_int (fun _ z => z) (fun _ z => nomatch z)) (da_cons (Rv2 := []) de_int (da_cons (Rv2 := []) de_int da_nil (fun _ z => z) (fun _ z => nomatch z)) (fun _ z => z) (fun _ z => nomatch z)) (fun _ z => z) (fun _ z => nomatch z)) rfl) (da_cons (Rv2 := []) (de_op (fr := false) (Rv2 := []) (o_pow C) ok_pow de_int de_int (fun _ z => z) (fun _ z => nomatch z)) da_nil (fun _ z => z) (fun _ z => nomatch z)) (fun _ z => z) (fun _ z => nomatch z)) rfl) da_nil (fun _ z => z) (fun _ z => nomatch z)) rfl) da_nil (fun _ z => z) (fun _ z => nomatch z)) rfl rfl (fun _ z => nomatch z)) de_bl (fun _ z => z) (fun _ z => nomatch z) rfl)))) (dss_one (ds_ret (U2 := [1]) de_bl (by decide) (fun _ _ _ _ _ _ _ h q => kd_cl h q))) dss_nil) (dss_cons (U1 := [1]) (fo_ (UL := [1]) (Rv2 := []) W P (di_range1 (F.gloP (i := 1) rfl).1 (fun z => W.mg z 0 _ rfl) de_int) (g_ F 5 rfl rfl) (dss_cons (U1 := [1]) (p2_ (k1 := .cl) (k2 := .cl) (Un := [1]) W F 6 7 rfl rfl (by decide) rfl rfl rfl (by decide +kernel) (de_callM c__law_matrix (F.gloP (i := 8) rfl).1 (F.gloP (i := 8) rfl).2.1 (da_cons (Rv2 := [1]) (o_ F 1 rfl rfl (by decide)) da_nil (by decide) (fun i z => by cases z; decide)) rfl rfl rfl (by decide) (by decide) (fun _ z => nomatch z)) (de_callM c__law_matrix (F.gloP (i := 8) rfl).1 (F.gloP (i := 8) rfl).2.1 (da_cons (Rv2 := [1]) (o_ F 1 rfl rfl (by decide)) da_nil (by decide) (fun i z => by cases z; decide)) rfl rfl rfl (by decide) (by decide) (fun _ z => nomatch z)) (fun _ z => nomatch z) (fun _ z => nomatch z) (by decide) (by decide) (by decide)) (dss_cons (U1 := [1]) (as_ (kd := .cl) (Un := [1]) W F 8 rfl rfl (de_call c__law_by (F.gloP (i := 9) rfl).1 (F.gloP (i := 9) rfl).2.1 (da_cons (Rv2 := []) (v_ F 6 rfl rfl (by decide)) (da_cons (Rv2 := []) (v_ F 7 rfl rfl (by decide)) da_nil (fun _ z => z) (fun _ z => nomatch z)) (fun _ z => z) (fun _ z => nomatch z)) rfl rfl (fun _ z => nomatch z)) (by decide) (by decide) (fun _ z => nomatch z) (by decide)) (dss_cons (U1 := [1]) (p3_ (Un := [1]) W F 9 10 11 rfl rfl rfl (by decide) (by decide) (by decide) rfl rfl rfl rfl (by decide +kernel) (da_cons (Rv2 := []) (de_op (fr := false) (Rv2 := []) (o_add C) ok_add (de_ix (fr := false) (Rv2 := []) (o_ix C W) ok_ixA (v_ F 6 rfl rfl (by decide)) de_int (fun _ z => z) (fun _ z => nomatch z)) (de_ix (fr := false) (Rv2 := []) (o_ix C W) ok_ixA (v_ F 6 rfl rfl (by decide)) de_int (fun _ z => z) (fun _ z => nomatch z)) (fun _ z => z) (fun _ z => nomatch z)) (da_cons (Rv2 := []) (de_op (fr := false) (Rv2 := []) (o_add C) ok_add (de_ix (fr := false) (Rv2 := []) (o_ix C W) ok_ixA (v_ F 7 rfl rfl (by decide)) de_int (fun _ z => z) (fun _ z => nomatch z)) (de_ix (fr := false) (Rv2 := []) (o_ix C W) ok_ixA (v_ F 7 rfl rfl (by decide)) de_int (fun _ z => z) (fun _ z => nomatch z)) (fun _ z => z) (fun _ z => nomatch z)) (da_cons (Rv2 := []) (de_op (fr := false) (Rv2 := []) (o_add C) ok_add (de_ix (fr := false) (Rv2 := []) (o_ix C W) ok_ixA (v_ F 8 rfl rfl (by decide)) de_int (fun _ z => z) (fun _ z => nomatch z)) (de_ix (fr := false) (Rv2 := []) (o_ix C W) ok_ixA (v_ F 8 rfl rfl (by decide)) de_int (fun _ z => z) (fun _ z => nomatch z)) (fun _ z => z) (fun _ z => nomatch z)) da_nil (fun _ z => z) (fun _ z => nomatch z)) (fun _ z => z) (fun _ z => nomatch z)) (fun _ z => z) (fun _ z => nomatch z)) rfl (by decide) (by decide) (by decide)) (dss_cons (U1 := [1]) (as_ (kd := .cl) (Un := [1]) W F 12 rfl rfl (de_call c__law_along (F.gloP (i := 10) rfl).1 (F.gloP (i := 10) rfl).2.1 (da_cons (Rv2 := []) (v_ F 3 rfl rfl (by decide)) (da_cons (Rv2 := []) (v_ F 6 rfl rfl (by decide)) (da_cons (Rv2 := []) (v_ F 7 rfl rfl (by decide)) da_nil (fun _ z => z) (fun _ z => nomatch z)) (fun _ z => z) (fun _ z => nomatch z)) (fun _ z => z) (fun _ z => nomatch z)) rfl rfl (fun _ z => nomatch z)) (by decide) (by decide) (fun _ z => nomatch z) (by decide)) (dss_one (ds_if (U2 := [1]) (DT.w (dw_or (dt_cmp (Rv2 := []) (o_ne C W) ok_ne (bu_ (fr := false) W F 5 1 rfl rfl PyProof.Rows.boot_repr (c_rep C W) ok_repr (da_cons (Rv2 := []) (de_call c_value_of (F.gloP (i := 11) rfl).1 (F.gloP (i := 11) rfl).2.1 (da_cons (Rv2 := []) (v_ F 4 rfl rfl (by decide)) (da_cons (Rv2 := []) (v_ F 9 rfl rfl (by decide)) (da_cons (Rv2 := []) (v_ F 10 rfl rfl (by decide)) (da_cons (Rv2 := []) (v_ F 11 rfl rfl (by decide)) da_nil (fun _ z => z) (fun _ z => nomatch z)) (fun _ z => z) (fun _ z => nomatch z)) (fun _ z => z) (fun _ z => nomatch z)) (fun _ z => z) (fun _ z => nomatch z)) rfl rfl (fun _ z => nomatch z)) da_nil (fun _ z => z) (fun _ z => nomatch z))) (bu_ (fr := false) W F 5 1 rfl rfl PyProof.Rows.boot_repr (c_rep C W) ok_repr (da_cons (Rv2 := []) (v_ F 12 rfl rfl (by decide)) da_nil (fun _ z => z) (fun _ z => nomatch z))) (fun _ z => z) (fun _ z => nomatch z) rfl) (dw_or1 (dt_cmp (Rv2 := []) (o_ne C W) ok_ne (de_callK0 k_value_of_z_y_x_polynomial (F.gloP (i := 11) rfl).1 (F.gloP (i := 11) rfl).2.1 (dk_cons (Rv2 := []) (v_ F 11 rfl rfl (by decide)) (dk_cons (Rv2 := []) (v_ F 10 rfl rfl (by decide)) (dk_cons (Rv2 := []) (v_ F 9 rfl rfl (by decide)) (dk_cons (Rv2 := []) (v_ F 4 rfl rfl (by decide)) dk_nil (fun _ z => z) (fun _ z => nomatch z)) (fun _ z => z) (fun _ z => nomatch z)) (fun _ z => z) (fun _ z => nomatch z)) (fun _ z => z) (fun _ z => nomatch z)) rfl rfl (fun _ z => nomatch z)) (v_ F 12 rfl rfl (by decide)) (fun _ z => z) (fun _ z => nomatch z) rfl)))) (dss_one (ds_ret (U2 := [1]) de_bl (by decide) (fun _ _ _ _ _ _ _ h q => kd_cl h q))) dss_nil)))))) (by decide) (fun _ z => z) (by decide) (by decide)) (dss_cons (U1 := [1]) (as_ (kd := .cl) (Un := [1]) W F 13 rfl rfl (de_callM c__law_draw (F.gloP (i := 12) rfl).1 (F.gloP (i := 12) rfl).2.1 (da_cons (Rv2 := [1]) (o_ F 1 rfl rfl (by decide)) (da_cons (Rv2 := [1]) (de_op (fr := false) (Rv2 := [1]) (o_add C) ok_add (bu_ (fr := false) W F 13 3 rfl rfl PySem.boot_len (c_len C) ok_len (da_cons (Rv2 := [1]) (v_ F 3 rfl rfl (by decide)) da_nil (fun _ z => z) (fun _ z => nomatch z))) de_int (fun _ z => z) (fun _ z => nomatch z)) da_nil (fun _ z => z) (fun _ z => nomatch z)) (by decide) (fun i z => by cases z; decide)) rfl rfl rfl (by decide) (by decide) (fun _ z => nomatch z)) (by decide) (by decide) (fun _ z => nomatch z) (by decide)) (dss_cons (U1 := [1]) (as_ (kd := .cl) (Un := [1]) W F 14 rfl rfl (bt_ (fr := false) W F 14 4 rfl rfl PyProof.Rows.boot_tuple (c_tup C) ok_tuple (da_cons (Rv2 := []) (de_fc (lc_ (own := [("letter", 15)]) (UL := [1]) (Rv2 := []) (vb' := [false, false, false, false, false, false, false, false, false, false, false, false, false, false, false, true, false, false, false]) (lb' := [false, false, false, false, false, false, false, false, false, false, false, false, false, false, false, true, false, false, false]) (gs' := []) W F (di_seq (de_rev (v_ F 3 rfl rfl (by decide)))) (by decide +kernel) (by decide +kernel) (fun B1 => (g_ B1 15 rfl rfl)) (fun B1 => dts_nil) (fun B1 => (de_un (fr := false) (o_neg (blkC C _)) ok_neg (v_ B1 15 rfl rfl (by decide)))) (by decide) (fun _ z => z) (by decide) (by decide) (by decide))) da_nil (fun _ z => z) (fun _ z => nomatch z))) (by decide) (by decide) (fun _ z => nomatch z) (by decide)) (dss_cons (U1 := [1]) (as_ (kd := .cl) (Un := [1]) W F 15 rfl rfl (de_ix (fr := false) (Rv2 := []) (o_ix C W) ok_ixA (de_lst (da_cons (Rv2 := []) de_int (da_cons (Rv2 := []) (de_un (fr := false) (o_neg C) ok_neg de_int) (da_cons (Rv2 := []) de_int (da_cons (Rv2 := []) (de_un (fr := false) (o_neg C) ok_neg de_int) da_nil (fun _ z => z) (fun _ z => nomatch z)) (fun _ z => z) (fun _ z => nomatch z)) (fun _ z => z) (fun _ z => nomatch z)) (fun _ z => z) (fun _ z => nomatch z)) rfl) (de_callM c__law_draw (F.gloP (i := 12) rfl).1 (F.gloP (i := 12) rfl).2.1 (da_cons (Rv2 := [1]) (o_ F 1 rfl rfl (by decide)) (da_cons (Rv2 := [1]) de_int da_nil (fun _ z => z) (fun _ z => nomatch z)) (by decide) (fun i z => by cases z; decide)) rfl rfl rfl (by decide) (by decide) (fun _ z => nomatch z)) (fun _ z => z) (fun _ z => nomatch z)) (by decide) (by decide) (fun _ z => nomatch z) (by decide)) (dss_cons (U1 := [1]) (as_ (kd := .cl) (Un := [1]) W F 16 rfl rfl (de_op (fr := false) (Rv2 := []) (o_add C) ok_add (de_op (fr := false) (Rv2 := []) (o_add C) ok_add (de_slice (Rv2 := []) (v_ F 3 rfl rfl (by decide)) do_none (do_some (v_ F 13 rfl rfl (by decide))) (fun _ z => z) (fun _ z => nomatch z)) (de_tup (da_cons (Rv2 := []) (v_ F 15 rfl rfl (by decide)) (da_cons (Rv2 := []) (de_un (fr := false) (o_neg C) ok_neg (v_ F 15 rfl rfl (by decide))) da_nil (fun _ z => z) (fun _ z => nomatch z)) (fun _ z => z) (fun _ z => nomatch z)) rfl) (fun _ z => z) (fun _ z => nomatch z)) (de_slice (Rv2 := []) (v_ F 3 rfl rfl (by decide)) (do_some (v_ F 13 rfl rfl (by decide))) do_none (fun _ z => z) (fun _ z => nomatch z)) (fun _ z => z) (fun _ z => nomatch z)) (by decide) (by decide) (fun _ z => nomatch z) (by decide)) (dss_cons (U1 := [1]) (fo_ (UL := [1]) (Rv2 := []) W P (di_seq (de_op (fr := false) (Rv2 := []) (o_add C) ok_add (de_lst (da_cons (Rv2 := []) (de_op (fr := false) (Rv2 := []) (o_add C) ok_add (de_slice (Rv2 := []) (v_ F 3 rfl rfl (by decide)) (do_some (v_ F 13 rfl rfl (by decide))) do_none (fun _ z => z) (fun _ z => nomatch z)) (de_slice (Rv2 := []) (v_ F 3 rfl rfl (by decide)) do_none (do_some (v_ F 13 rfl rfl (by decide))) (fun _ z => z) (fun _ z => nomatch z)) (fun _ z => z) (fun _ z => nomatch z)) (da_cons (Rv2 := []) (v_ F 14 rfl rfl (by decide)) (da_cons (Rv2 := []) (de_call c_reduced (F.gloP (i := 15) rfl).1 (F.gloP (i := 15) rfl).2.1 (da_cons (Rv2 := []) de_int (da_cons (Rv2 := []) (v_ F 3 rfl rfl (by decide)) da_nil (fun _ z => z) (fun _ z => nomatch z)) (fun _ z => z) (fun _ z => nomatch z)) rfl rfl (fun _ z => nomatch z)) da_nil (fun _ z => z) (fun _ z => nomatch z)) (fun _ z => z) (fun _ z => nomatch z)) (fun _ z => z) (fun _ z => nomatch z)) rfl) (de_if (dt_cmp (Rv2 := []) (o_lt C W) ok_lt (bu_ (fr := false) W F 13 3 rfl rfl PySem.boot_len (c_len C) ok_len (da_cons (Rv2 := []) (v_ F 3 rfl rfl (by decide)) da_nil (fun _ z => z) (fun _ z => nomatch z))) de_int (fun _ z => z) (fun _ z => nomatch z) rfl) (de_fc (de_lst (da_cons (Rv2 := []) (v_ F 16 rfl rfl (by decide)) da_nil (fun _ z => z) (fun _ z => nomatch z)) rfl)) (de_fc (de_lst da_nil rfl))) (fun _ z => z) (fun _ z => nomatch z))) (g_ F 17 rfl rfl) (dss_one (ds_if (U2 := [1]) (dt_cmp (Rv2 := []) (o_ne C W) ok_ne (bu_ (fr := false) W F 5 1 rfl rfl PyProof.Rows.boot_repr (c_rep C W) ok_repr (da_cons (Rv2 := []) (de_call c_trace_of (F.gloP (i := 3) rfl).1 (F.gloP (i := 3) rfl).2.1 (da_cons (Rv2 := []) (v_ F 17 rfl rfl (by decide)) da_nil (fun _ z => z) (fun _ z => nomatch z)) rfl rfl (fun _ z => nomatch z)) da_nil (fun _ z => z) (fun _ z => nomatch z))) (bu_ (fr := false) W F 5 1 rfl rfl PyProof.Rows.boot_repr (c_rep C W) ok_repr (da_cons (Rv2 := []) (v_ F 4 rfl rfl (by decide)) da_nil (fun _ z => z) (fun _ z => nomatch z))) (fun _ z => z) (fun _ z => nomatch z) rfl) (dss_one (ds_ret (U2 := [1]) de_bl (by decide) (fun _ _ _ _ _ _ _ h q => kd_cl h q))) dss_nil)) (by decide) (fun _ z => z) (by decide) (by decide)) (dss_one (ds_if (U2 := [1]) (DT.w (dw_and (dt_cmp (Rv2 := []) (o_lt C W) ok_lt (bu_ (fr := false) W F 13 3 rfl rfl PySem.boot_len (c_len C) ok_len (da_cons (Rv2 := []) (v_ F 3 rfl rfl (by decide)) da_nil (fun _ z => z) (fun _ z => nomatch z))) de_int (fun _ z => z) (fun _ z => nomatch z) rfl) (dw_and1 (dt_cmp (Rv2 := []) (o_ne C W) ok_ne (bu_ (fr := false) W F 5 1 rfl rfl PyProof.Rows.boot_repr (c_rep C W) ok_repr (da_cons (Rv2 := []) (de_call c_trace_of (F.gloP (i := 3) rfl).1 (F.gloP (i := 3) rfl).2.1 (da_cons (Rv2 := []) (de_op (fr := false) (Rv2 := []) (o_add C) ok_add (de_op (fr := false) (Rv2 := []) (o_add C) ok_add (de_tup (da_cons (Rv2 := []) (v_ F 15 rfl rfl (by decide)) da_nil (fun _ z => z) (fun _ z => nomatch z)) rfl) (v_ F 3 rfl rfl (by decide)) (fun _ z => z) (fun _ z => nomatch z)) (de_tup (da_cons (Rv2 := []) (de_un (fr := false) (o_neg C) ok_neg (v_ F 15 rfl rfl (by decide))) da_nil (fun _ z => z) (fun _ z => nomatch z)) rfl) (fun _ z => z) (fun _ z => nomatch z)) da_nil (fun _ z => z) (fun _ z => nomatch z)) rfl rfl (fun _ z => nomatch z)) da_nil (fun _ z => z) (fun _ z => nomatch z))) (bu_ (fr := false) W F 5 1 rfl rfl PyProof.Rows.boot_repr (c_rep C W) ok_repr (da_cons (Rv2 := []) (v_ F 4 rfl rfl (by decide)) da_nil (fun _ z => z) (fun _ z => nomatch z))) (fun _ z => z) (fun _ z => nomatch z) rfl)))) (dss_one (ds_ret (U2 := [1]) de_bl (by decide) (fun _ _ _ _ _ _ _ h q => kd_cl h q))) dss_nil)))))))))))) (by decide) (fun _ z => z) (by decide) (by decide)) (dss_one (ds_ret (U2 := []) de_bl (by decide) (fun _ _ _ _ _ _ _ h q => kd_cl h q)))))
/-! ### the module -/
def df_is_integer : He.DefD := ⟨("is_integer", none), "is_integer", "is_integer", defArgs s_is_integer, defBody s_is_integer, defScope s_is_integer, [], []⟩
def df_is_natural : He.DefD := ⟨("is_natural", none), "is_natural", "is_natural", defArgs s_is_natural, defBody s_is_natural, defScope s_is_natural, [.int 0], []⟩
def df_are_integers : He.DefD := ⟨("are_integers", none), "are_integers", "are_integers", defArgs s_are_integers, defBody s_are_integers, defScope s_are_integers, [], []⟩
def df_check_integer : He.DefD := ⟨("check_integer", none), "check_integer", "check_integer", defArgs s_check_integer, defBody s_check_integer, defScope s_check_integer, [], []⟩
def df_check_between : He.DefD := ⟨("check_between", none), "check_between", "check_between", defArgs s_check_between, defBody s_check_between, defScope s_check_between, [], []⟩
def df_is_word_in : He.DefD := ⟨("is_word_in", none), "is_word_in", "is_word_in", defArgs s_is_word_in, defBody s_is_word_in, defScope s_is_word_in, [], []⟩
def df_reduced_in : He.DefD := ⟨("reduced_in", none), "reduced_in", "reduced_in", defArgs s_reduced_in, defBody s_reduced_in, defScope s_reduced_in, [], []⟩
def df_is_polynomial : He.DefD := ⟨("is_polynomial", none), "is_polynomial", "is_polynomial", defArgs s_is_polynomial, defBody s_is_polynomial, defScope s_is_polynomial, [], []⟩
def df_summed : He.DefD := ⟨("summed", none), "summed", "summed", defArgs s_summed, defBody s_summed, defScope s_summed, [], []⟩
def df_by_first : He.DefD := ⟨("by_first", none), "by_first", "by_first", defArgs s_by_first, defBody s_by_first, defScope s_by_first, [], []⟩
def df_by_second : He.DefD := ⟨("by_second", none), "by_second", "by_second", defArgs s_by_second, defBody s_by_second, defScope s_by_second, [], []⟩
def df_by_letter : He.DefD := ⟨("by_letter", none), "by_letter", "by_letter", defArgs s_by_letter, defBody s_by_letter, defScope s_by_letter, [], []⟩
def df_trace_of : He.DefD := ⟨("trace_of", none), "trace_of", "trace_of", defArgs s_trace_of, defBody s_trace_of, defScope s_trace_of, [], []⟩
def df_value_of : He.DefD := ⟨("value_of", none), "value_of", "value_of", defArgs s_value_of, defBody s_value_of, defScope s_value_of, [], []⟩
def df_check_letters : He.DefD := ⟨("check_letters", none), "check_letters", "check_letters", defArgs s_check_letters, defBody s_check_letters, defScope s_check_letters, [], []⟩
def df_reduced : He.DefD := ⟨("reduced", none), "reduced", "reduced", defArgs s_reduced, defBody s_reduced, defScope s_reduced, [], []⟩
def df__law_begin : He.DefD := ⟨("_law_begin", none), "_law_begin", "_law_begin", defArgs s__law_begin, defBody s__law_begin, defScope s__law_begin, [], []⟩
def df__law_draw : He.DefD := ⟨("_law_draw", none), "_law_draw", "_law_draw", defArgs s__law_draw, defBody s__law_draw, defScope s__law_draw, [], []⟩
def df__law_word : He.DefD := ⟨("_law_word", none), "_law_word", "_law_word", defArgs s__law_word, defBody s__law_word, defScope s__law_word, [], []⟩
def df__law_by : He.DefD := ⟨("_law_by", none), "_law_by", "_law_by", defArgs s__law_by, defBody s__law_by, defScope s__law_by, [], []⟩
def df__law_matrix : He.DefD := ⟨("_law_matrix", none), "_law_matrix", "_law_matrix", defArgs s__law_matrix, defBody s__law_matrix, defScope s__law_matrix, [], []⟩
def df__law_along : He.DefD := ⟨("_law_along", none), "_law_along", "_law_along", defArgs s__law_along, defBody s__law_along, defScope s__law_along, [], []⟩
def df__law_no_polynomials : He.DefD := ⟨("_law_no_polynomials", none), "_law_no_polynomials", "_law_no_polynomials", defArgs s__law_no_polynomials, defBody s__law_no_polynomials, defScope s__law_no_polynomials, [], []⟩
def df_law : He.DefD := ⟨("law", none), "law", "law", defArgs s_law, defBody s_law, defScope s_law, [], []⟩
def fnL : List He.DefD := [df_is_integer, df_is_natural, df_are_integers, df_check_integer, df_check_between, df_is_word_in, df_reduced_in, df_is_polynomial, df_summed, df_by_first, df_by_second, df_by_letter, df_trace_of, df_value_of, df_check_letters, df_reduced, df__law_begin, df__law_draw, df__law_word, df__law_by, df__law_matrix, df__law_along, df__law_no_polynomials, df_law]
def faL : List He.Fa := [.glo "is_integer", .glo "is_natural", .glo "are_integers", .glo "check_integer", .glo "check_between", .glo "is_word_in", .glo "reduced_in", .glo "is_polynomial", .glo "summed", .glo "by_first", .glo "by_second", .glo "by_letter", .glo "trace_of", .glo "value_of", .glo "check_letters", .glo "reduced", .glo "_law_begin", .glo "_law_draw", .glo "_law_word", .glo "_law_by", .glo "_law_matrix", .glo "_law_along", .glo "_law_no_polynomials", .glo "law", .glo "X", .glo "Y", .glo "Z", .free "isinstance", .free "int", .free "bool", .free "tuple", .free "len", .free "all", .free "abs", .free "min", .free "zip", .free "sorted", .free "range", .free "sum", .free "list", .free "repr", .free "any"]
def exL (K : PySem.W.Frag) : Bool := He.tupB K "X" (([1, 0, 0] : List Int).map He.Dv.int) && He.tupB K "Y" (([0, 1, 0] : List Int).map He.Dv.int) && He.tupB K "Z" (([0, 0, 1] : List Int).map He.Dv.int)
theorem bb_ {a b : Bool} (h : (a && b) = true) : a = true ∧ b = true := by cases a <;> cases b <;> simp_all
section
variable {P : Program} {w : World} {K : PySem.W.Frag} {mg : Str → Option Value} {base : Heap}
abbrev FnIs (K : PySem.W.Frag) (x : Str) (d : He.DefD) (fd : FuncData) : Prop := FunD K d.name d.qual d.params d.body d.scope (d.dvs K) (d.kws K) (He.fAd K d.at_) fd
theorem sc_is_integer : FnScope N_is_integer ["value"] (defScope s_is_integer) := ⟨rfl, rfl, rfl, by decide +kernel, rfl, by decide +kernel, by decide +kernel⟩
theorem ok_is_integer (c : He.SaysD faL fnL K) (t : exL K = true) (X : K.In base) (G : base.Ns mainGlobals mg) {fd : FuncData} (D : FnIs K "is_integer" df_is_integer fd) : FnG P w K mg base 1 (He.ga K "is_integer") fd ["value"] (spD K 1 [] .cl f_is_integer) := by
  exact fn_dv (st := s_is_integer) (Un := []) D sc_is_integer rfl (by decide) (.inl rfl) (nn := false) (fun h => by cases h) fun cdv A outer s H E hr hg => d_is_integer ⟨fun _ => rfl, fun _ => rfl, fun _ _ _ => rfl, h_is_integer⟩ ⟨rfl, fun _ => frees_of c X G (by decide +kernel), fun _ => rfl, fun _ => hr.mono (Nat.zero_le _), fun _ => hg⟩ ⟨fun _ => passes_of rfl⟩
theorem sc_is_natural : FnScope N_is_natural ["value", "least"] (defScope s_is_natural) := ⟨rfl, rfl, rfl, by decide +kernel, rfl, by decide +kernel, by decide +kernel⟩
theorem ok_is_natural (c : He.SaysD faL fnL K) (t : exL K = true) (X : K.In base) (G : base.Ns mainGlobals mg) {fd : FuncData} (D : FnIs K "is_natural" df_is_natural fd) : FnG P w K mg base 2 (He.ga K "is_natural") fd ["value", "least"] (spD K 2 [] .cl f_is_natural) := by
  obtain ⟨fd_is_integer, D_is_integer⟩ := c.def_ 0 (d := df_is_integer) rfl
  have o_is_integer := ok_is_integer (P := P) (w := w) c t X G D_is_integer
  exact fn_dv (st := s_is_natural) (Un := []) D sc_is_natural rfl (by decide) (.inl rfl) (nn := false) (fun h => by cases h) fun cdv A outer s H E hr hg => d_is_natural ⟨fun _ => rfl, fun _ => rfl, fun _ _ _ => rfl, h_is_natural⟩ ⟨rfl, fun _ => frees_of c X G (by decide +kernel), fun _ => rfl, fun _ => hr.mono (Nat.zero_le _), fun _ => hg⟩ ⟨fun _ => passes_of rfl⟩
    (cal_of hr hg o_is_integer (glo_of c X G (by decide +kernel)) D_is_integer.kp (D_is_integer.bindsN fun _ _ _ _ _ _ us hl => match us, hl with | [_], _ => rfl) (by decide) (by decide))
theorem sc_are_integers : FnScope N_are_integers ["value", "size"] (defScope s_are_integers) := ⟨rfl, rfl, rfl, by decide +kernel, rfl, by decide +kernel, by decide +kernel⟩
theorem ok_are_integers (c : He.SaysD faL fnL K) (t : exL K = true) (X : K.In base) (G : base.Ns mainGlobals mg) {fd : FuncData} (D : FnIs K "are_integers" df_are_integers fd) : FnG P w K mg base 2 (He.ga K "are_integers") fd ["value", "size"] (spD K 2 [] .cl f_are_integers) := by
  obtain ⟨fd_is_integer, D_is_integer⟩ := c.def_ 0 (d := df_is_integer) rfl
  have o_is_integer := ok_is_integer (P := P) (w := w) c t X G D_is_integer
  exact fn_dv (st := s_are_integers) (Un := []) D sc_are_integers rfl (by decide) (.inl rfl) (nn := false) (fun h => by cases h) fun cdv A outer s H E hr hg => d_are_integers ⟨fun _ => rfl, fun _ => rfl, fun _ _ _ => rfl, h_are_integers⟩ ⟨rfl, fun _ => frees_of c X G (by decide +kernel), fun _ => rfl, fun _ => hr.mono (Nat.zero_le _), fun _ => hg⟩ ⟨fun _ => passes_of rfl⟩
    (cal_of hr hg o_is_integer (glo_of c X G (by decide +kernel)) D_is_integer.kp (D_is_integer.bindsN fun _ _ _ _ _ _ us hl => match us, hl with | [_], _ => rfl) (by decide) (by decide))
theorem sc_check_integer : FnScope N_check_integer ["value"] (defScope s_check_integer) := ⟨rfl, rfl, rfl, by decide +kernel, rfl, by decide +kernel, by decide +kernel⟩
theorem ok_check_integer (c : He.SaysD faL fnL K) (t : exL K = true) (X : K.In base) (G : base.Ns mainGlobals mg) {fd : FuncData} (D : FnIs K "check_integer" df_check_integer fd) : FnG P w K mg base 2 (He.ga K "check_integer") fd ["value"] (spD K 1 [] .cl f_check_integer) := by
  obtain ⟨fd_is_integer, D_is_integer⟩ := c.def_ 0 (d := df_is_integer) rfl
  have o_is_integer := ok_is_integer (P := P) (w := w) c t X G D_is_integer
  exact fn_dv (st := s_check_integer) (Un := []) D sc_check_integer rfl (by decide) (.inl rfl) (nn := true) (fun h => rfl) fun cdv A outer s H E hr hg => d_check_integer ⟨fun _ => rfl, fun _ => rfl, fun _ _ _ => rfl, h_check_integer⟩ ⟨rfl, fun _ => frees_of c X G (by decide +kernel), fun _ => rfl, fun _ => hr.mono (Nat.zero_le _), fun _ => hg⟩ ⟨fun _ => passes_of rfl⟩
    (cal_of hr hg o_is_integer (glo_of c X G (by decide +kernel)) D_is_integer.kp (D_is_integer.bindsN fun _ _ _ _ _ _ us hl => match us, hl with | [_], _ => rfl) (by decide) (by decide))
theorem sc_check_between : FnScope N_check_between ["value", "least", "most"] (defScope s_check_between) := ⟨rfl, rfl, rfl, by decide +kernel, rfl, by decide +kernel, by decide +kernel⟩
theorem ok_check_between (c : He.SaysD faL fnL K) (t : exL K = true) (X : K.In base) (G : base.Ns mainGlobals mg) {fd : FuncData} (D : FnIs K "check_between" df_check_between fd) : FnG P w K mg base 3 (He.ga K "check_between") fd ["value", "least", "most"] (spD K 3 [] .cl f_check_between) := by
  obtain ⟨fd_is_natural, D_is_natural⟩ := c.def_ 1 (d := df_is_natural) rfl
  have o_is_natural := ok_is_natural (P := P) (w := w) c t X G D_is_natural
  exact fn_dv (st := s_check_between) (Un := []) D sc_check_between rfl (by decide) (.inl rfl) (nn := true) (fun h => rfl) fun cdv A outer s H E hr hg => d_check_between ⟨fun _ => rfl, fun _ => rfl, fun _ _ _ => rfl, h_check_between⟩ ⟨rfl, fun _ => frees_of c X G (by decide +kernel), fun _ => rfl, fun _ => hr.mono (Nat.zero_le _), fun _ => hg⟩ ⟨fun _ => passes_of rfl⟩
    (cal_dfl (dfl := []) hr hg o_is_natural (glo_of c X G (by decide +kernel)) D_is_natural.kp (D_is_natural.binds1 2 1 (by intro z; cases z) rfl fun _ _ _ _ _ _ _ us its h1 h2 => match us, its, h1, h2 with | [_, _], [_], _, _ => ⟨_, rfl, rfl⟩) (by decide) (by decide) rfl (fun _ => .nil))
theorem sc_is_word_in : FnScope N_is_word_in ["letters", "value"] (defScope s_is_word_in) := ⟨rfl, rfl, rfl, by decide +kernel, rfl, by decide +kernel, by decide +kernel⟩
theorem ok_is_word_in (c : He.SaysD faL fnL K) (t : exL K = true) (X : K.In base) (G : base.Ns mainGlobals mg) {fd : FuncData} (D : FnIs K "is_word_in" df_is_word_in fd) : FnG P w K mg base 1 (He.ga K "is_word_in") fd ["letters", "value"] (spD K 2 [] .cl f_is_word_in) := by
  exact fn_dv (st := s_is_word_in) (Un := []) D sc_is_word_in rfl (by decide) (.inl rfl) (nn := false) (fun h => by cases h) fun cdv A outer s H E hr hg => d_is_word_in ⟨fun _ => rfl, fun _ => rfl, fun _ _ _ => rfl, h_is_word_in⟩ ⟨rfl, fun _ => frees_of c X G (by decide +kernel), fun _ => rfl, fun _ => hr.mono (Nat.zero_le _), fun _ => hg⟩ ⟨fun _ => passes_of rfl⟩
theorem sc_reduced_in : FnScope N_reduced_in ["word"] (defScope s_reduced_in) := ⟨rfl, rfl, rfl, by decide +kernel, rfl, by decide +kernel, by decide +kernel⟩
theorem ok_reduced_in (c : He.SaysD faL fnL K) (t : exL K = true) (X : K.In base) (G : base.Ns mainGlobals mg) {fd : FuncData} (D : FnIs K "reduced_in" df_reduced_in fd) : FnG P w K mg base 1 (He.ga K "reduced_in") fd ["word"] (spD K 1 [] .cl f_reduced_in) := by
  exact fn_dv (st := s_reduced_in) (Un := []) D sc_reduced_in rfl (by decide) (.inl rfl) (nn := false) (fun h => by cases h) fun cdv A outer s H E hr hg => d_reduced_in ⟨fun _ => rfl, fun _ => rfl, fun _ _ _ => rfl, h_reduced_in⟩ ⟨rfl, fun _ => frees_of c X G (by decide +kernel), fun _ => rfl, fun _ => hr.mono (Nat.zero_le _), fun _ => hg⟩ ⟨fun _ => passes_of rfl⟩
theorem sc_is_polynomial : FnScope N_is_polynomial ["value"] (defScope s_is_polynomial) := ⟨rfl, rfl, rfl, by decide +kernel, rfl, by decide +kernel, by decide +kernel⟩
theorem ok_is_polynomial (c : He.SaysD faL fnL K) (t : exL K = true) (X : K.In base) (G : base.Ns mainGlobals mg) {fd : FuncData} (D : FnIs K "is_polynomial" df_is_polynomial fd) : FnG P w K mg base 3 (He.ga K "is_polynomial") fd ["value"] (spD K 1 [] .cl f_is_polynomial) := by
  obtain ⟨fd_are_integers, D_are_integers⟩ := c.def_ 2 (d := df_are_integers) rfl
  have o_are_integers := ok_are_integers (P := P) (w := w) c t X G D_are_integers
  obtain ⟨fd_is_integer, D_is_integer⟩ := c.def_ 0 (d := df_is_integer) rfl
  have o_is_integer := ok_is_integer (P := P) (w := w) c t X G D_is_integer
  exact fn_dv (st := s_is_polynomial) (Un := []) D sc_is_polynomial rfl (by decide) (.inl rfl) (nn := false) (fun h => by cases h) fun cdv A outer s H E hr hg => d_is_polynomial ⟨fun _ => rfl, fun _ => rfl, fun _ _ _ => rfl, h_is_polynomial⟩ ⟨rfl, fun _ => frees_of c X G (by decide +kernel), fun _ => rfl, fun _ => hr.mono (Nat.zero_le _), fun _ => hg⟩ ⟨fun _ => passes_of rfl⟩
    (cal_of hr hg o_are_integers (glo_of c X G (by decide +kernel)) D_are_integers.kp (D_are_integers.bindsN fun _ _ _ _ _ _ us hl => match us, hl with | [_, _], _ => rfl) (by decide) (by decide))
    (cal_of hr hg o_is_integer (glo_of c X G (by decide +kernel)) D_is_integer.kp (D_is_integer.bindsN fun _ _ _ _ _ _ us hl => match us, hl with | [_], _ => rfl) (by decide) (by decide))
theorem sc_summed : FnScope N_summed ["parts"] (defScope s_summed) := ⟨rfl, rfl, rfl, by decide +kernel, rfl, by decide +kernel, by decide +kernel⟩
theorem ok_summed (c : He.SaysD faL fnL K) (t : exL K = true) (X : K.In base) (G : base.Ns mainGlobals mg) {fd : FuncData} (D : FnIs K "summed" df_summed fd) : FnG P w K mg base 1 (He.ga K "summed") fd ["parts"] (spD K 1 [] .fr f_summed) := by
  exact fn_dv (st := s_summed) (Un := []) D sc_summed rfl (by decide) (.inr rfl) (nn := false) (fun h => by cases h) fun cdv A outer s H E hr hg => d_summed ⟨fun _ => rfl, fun _ => rfl, fun _ _ _ => rfl, h_summed⟩ ⟨rfl, fun _ => frees_of c X G (by decide +kernel), fun _ => rfl, fun _ => hr.mono (Nat.zero_le _), fun _ => hg⟩ ⟨fun _ => passes_of rfl⟩
theorem sc_by_first : FnScope N_by_first ["parts"] (defScope s_by_first) := ⟨rfl, rfl, rfl, by decide +kernel, rfl, by decide +kernel, by decide +kernel⟩
theorem ok_by_first (c : He.SaysD faL fnL K) (t : exL K = true) (X : K.In base) (G : base.Ns mainGlobals mg) {fd : FuncData} (D : FnIs K "by_first" df_by_first fd) : FnG P w K mg base 2 (He.ga K "by_first") fd ["parts"] (spD K 1 [] .cl f_by_first) := by
  obtain ⟨fd_summed, D_summed⟩ := c.def_ 8 (d := df_summed) rfl
  have o_summed := ok_summed (P := P) (w := w) c t X G D_summed
  exact fn_dv (st := s_by_first) (Un := []) D sc_by_first rfl (by decide) (.inl rfl) (nn := false) (fun h => by cases h) fun cdv A outer s H E hr hg => d_by_first ⟨fun _ => rfl, fun _ => rfl, fun _ _ _ => rfl, h_by_first⟩ ⟨rfl, fun _ => frees_of c X G (by decide +kernel), fun _ => rfl, fun _ => hr.mono (Nat.zero_le _), fun _ => hg⟩ ⟨fun _ => passes_of rfl⟩
    (cal_of hr hg o_summed (glo_of c X G (by decide +kernel)) D_summed.kp (D_summed.bindsN fun _ _ _ _ _ _ us hl => match us, hl with | [_], _ => rfl) (by decide) (by decide))
    (con_of (glo_of c X G (by decide +kernel)) (bb_ (bb_ t).1).1)
    (con_of (glo_of c X G (by decide +kernel)) (bb_ (bb_ t).1).2)
    (con_of (glo_of c X G (by decide +kernel)) (bb_ t).2)
theorem sc_by_second : FnScope N_by_second ["parts"] (defScope s_by_second) := ⟨rfl, rfl, rfl, by decide +kernel, rfl, by decide +kernel, by decide +kernel⟩
theorem ok_by_second (c : He.SaysD faL fnL K) (t : exL K = true) (X : K.In base) (G : base.Ns mainGlobals mg) {fd : FuncData} (D : FnIs K "by_second" df_by_second fd) : FnG P w K mg base 2 (He.ga K "by_second") fd ["parts"] (spD K 1 [] .cl f_by_second) := by
  obtain ⟨fd_summed, D_summed⟩ := c.def_ 8 (d := df_summed) rfl
  have o_summed := ok_summed (P := P) (w := w) c t X G D_summed
  exact fn_dv (st := s_by_second) (Un := []) D sc_by_second rfl (by decide) (.inl rfl) (nn := false) (fun h => by cases h) fun cdv A outer s H E hr hg => d_by_second ⟨fun _ => rfl, fun _ => rfl, fun _ _ _ => rfl, h_by_second⟩ ⟨rfl, fun _ => frees_of c X G (by decide +kernel), fun _ => rfl, fun _ => hr.mono (Nat.zero_le _), fun _ => hg⟩ ⟨fun _ => passes_of rfl⟩
    (cal_of hr hg o_summed (glo_of c X G (by decide +kernel)) D_summed.kp (D_summed.bindsN fun _ _ _ _ _ _ us hl => match us, hl with | [_], _ => rfl) (by decide) (by decide))
    (con_of (glo_of c X G (by decide +kernel)) (bb_ (bb_ t).1).2)
theorem sc_by_letter : FnScope N_by_letter ["parts", "letter"] (defScope s_by_letter) := ⟨rfl, rfl, rfl, by decide +kernel, rfl, by decide +kernel, by decide +kernel⟩
theorem ok_by_letter (c : He.SaysD faL fnL K) (t : exL K = true) (X : K.In base) (G : base.Ns mainGlobals mg) {fd : FuncData} (D : FnIs K "by_letter" df_by_letter fd) : FnG P w K mg base 3 (He.ga K "by_letter") fd ["parts", "letter"] (spD K 2 [] .cl f_by_letter) := by
  obtain ⟨fd_by_first, D_by_first⟩ := c.def_ 9 (d := df_by_first) rfl
  have o_by_first := ok_by_first (P := P) (w := w) c t X G D_by_first
  obtain ⟨fd_by_second, D_by_second⟩ := c.def_ 10 (d := df_by_second) rfl
  have o_by_second := ok_by_second (P := P) (w := w) c t X G D_by_second
  obtain ⟨fd_summed, D_summed⟩ := c.def_ 8 (d := df_summed) rfl
  have o_summed := ok_summed (P := P) (w := w) c t X G D_summed
  exact fn_dv (st := s_by_letter) (Un := []) D sc_by_letter rfl (by decide) (.inl rfl) (nn := false) (fun h => by cases h) fun cdv A outer s H E hr hg => d_by_letter ⟨fun _ => rfl, fun _ => rfl, fun _ _ _ => rfl, h_by_letter⟩ ⟨rfl, fun _ => frees_of c X G (by decide +kernel), fun _ => rfl, fun _ => hr.mono (Nat.zero_le _), fun _ => hg⟩ ⟨fun _ => passes_of rfl⟩
    (cal_of hr hg o_by_first (glo_of c X G (by decide +kernel)) D_by_first.kp (D_by_first.bindsN fun _ _ _ _ _ _ us hl => match us, hl with | [_], _ => rfl) (by decide) (by decide))
    (cal_of hr hg o_by_second (glo_of c X G (by decide +kernel)) D_by_second.kp (D_by_second.bindsN fun _ _ _ _ _ _ us hl => match us, hl with | [_], _ => rfl) (by decide) (by decide))
    (cal_of hr hg o_summed (glo_of c X G (by decide +kernel)) D_summed.kp (D_summed.bindsN fun _ _ _ _ _ _ us hl => match us, hl with | [_], _ => rfl) (by decide) (by decide))
    (con_of (glo_of c X G (by decide +kernel)) (bb_ (bb_ t).1).1)
    (con_of (glo_of c X G (by decide +kernel)) (bb_ (bb_ t).1).2)
theorem sc_trace_of : FnScope N_trace_of ["word"] (defScope s_trace_of) := ⟨rfl, rfl, rfl, by decide +kernel, rfl, by decide +kernel, by decide +kernel⟩
theorem ok_trace_of (c : He.SaysD faL fnL K) (t : exL K = true) (X : K.In base) (G : base.Ns mainGlobals mg) {fd : FuncData} (D : FnIs K "trace_of" df_trace_of fd) : FnG P w K mg base 4 (He.ga K "trace_of") fd ["word"] (spD K 1 [] .cl f_trace_of) := by
  obtain ⟨fd_is_word_in, D_is_word_in⟩ := c.def_ 5 (d := df_is_word_in) rfl
  have o_is_word_in := ok_is_word_in (P := P) (w := w) c t X G D_is_word_in
  obtain ⟨fd_reduced_in, D_reduced_in⟩ := c.def_ 6 (d := df_reduced_in) rfl
  have o_reduced_in := ok_reduced_in (P := P) (w := w) c t X G D_reduced_in
  obtain ⟨fd_by_letter, D_by_letter⟩ := c.def_ 11 (d := df_by_letter) rfl
  have o_by_letter := ok_by_letter (P := P) (w := w) c t X G D_by_letter
  obtain ⟨fd_summed, D_summed⟩ := c.def_ 8 (d := df_summed) rfl
  have o_summed := ok_summed (P := P) (w := w) c t X G D_summed
  exact fn_dv (st := s_trace_of) (Un := []) D sc_trace_of rfl (by decide) (.inl rfl) (nn := false) (fun h => by cases h) fun cdv A outer s H E hr hg => d_trace_of ⟨fun _ => rfl, fun _ => rfl, fun _ _ _ => rfl, h_trace_of⟩ ⟨rfl, fun _ => frees_of c X G (by decide +kernel), fun _ => rfl, fun _ => hr.mono (Nat.zero_le _), fun _ => hg⟩ ⟨fun _ => passes_of rfl⟩
    (cal_of hr hg o_is_word_in (glo_of c X G (by decide +kernel)) D_is_word_in.kp (D_is_word_in.bindsN fun _ _ _ _ _ _ us hl => match us, hl with | [_, _], _ => rfl) (by decide) (by decide))
    (cal_of hr hg o_reduced_in (glo_of c X G (by decide +kernel)) D_reduced_in.kp (D_reduced_in.bindsN fun _ _ _ _ _ _ us hl => match us, hl with | [_], _ => rfl) (by decide) (by decide))
    (cal_of hr hg o_by_letter (glo_of c X G (by decide +kernel)) D_by_letter.kp (D_by_letter.bindsN fun _ _ _ _ _ _ us hl => match us, hl with | [_, _], _ => rfl) (by decide) (by decide))
    (cal_of hr hg o_summed (glo_of c X G (by decide +kernel)) D_summed.kp (D_summed.bindsN fun _ _ _ _ _ _ us hl => match us, hl with | [_], _ => rfl) (by decide) (by decide))
    (con_of (glo_of c X G (by decide +kernel)) (bb_ (bb_ t).1).1)
    (con_of (glo_of c X G (by decide +kernel)) (bb_ (bb_ t).1).2)
    (con_of (glo_of c X G (by decide +kernel)) (bb_ t).2)
theorem sc_value_of : FnScope N_value_of ["polynomial", "x", "y", "z"] (defScope s_value_of) := ⟨rfl, rfl, rfl, by decide +kernel, rfl, by decide +kernel, by decide +kernel⟩
theorem ok_value_of (c : He.SaysD faL fnL K) (t : exL K = true) (X : K.In base) (G : base.Ns mainGlobals mg) {fd : FuncData} (D : FnIs K "value_of" df_value_of fd) : FnG P w K mg base 4 (He.ga K "value_of") fd ["polynomial", "x", "y", "z"] (spD K 4 [] .cl f_value_of) := by
  obtain ⟨fd_is_polynomial, D_is_polynomial⟩ := c.def_ 7 (d := df_is_polynomial) rfl
  have o_is_polynomial := ok_is_polynomial (P := P) (w := w) c t X G D_is_polynomial
  obtain ⟨fd_check_integer, D_check_integer⟩ := c.def_ 3 (d := df_check_integer) rfl
  have o_check_integer := ok_check_integer (P := P) (w := w) c t X G D_check_integer
  exact fn_dv (st := s_value_of) (Un := []) D sc_value_of rfl (by decide) (.inl rfl) (nn := false) (fun h => by cases h) fun cdv A outer s H E hr hg => d_value_of ⟨fun _ => rfl, fun _ => rfl, fun _ _ _ => rfl, h_value_of⟩ ⟨rfl, fun _ => frees_of c X G (by decide +kernel), fun _ => rfl, fun _ => hr.mono (Nat.zero_le _), fun _ => hg⟩ ⟨fun _ => passes_of rfl⟩
    (cal_of hr hg o_is_polynomial (glo_of c X G (by decide +kernel)) D_is_polynomial.kp (D_is_polynomial.bindsN fun _ _ _ _ _ _ us hl => match us, hl with | [_], _ => rfl) (by decide) (by decide))
    (cal_of hr hg o_check_integer (glo_of c X G (by decide +kernel)) D_check_integer.kp (D_check_integer.bindsN fun _ _ _ _ _ _ us hl => match us, hl with | [_], _ => rfl) (by decide) (by decide))
theorem sc_check_letters : FnScope N_check_letters ["n"] (defScope s_check_letters) := ⟨rfl, rfl, rfl, by decide +kernel, rfl, by decide +kernel, by decide +kernel⟩
theorem ok_check_letters (c : He.SaysD faL fnL K) (t : exL K = true) (X : K.In base) (G : base.Ns mainGlobals mg) {fd : FuncData} (D : FnIs K "check_letters" df_check_letters fd) : FnG P w K mg base 4 (He.ga K "check_letters") fd ["n"] (spD K 1 [] .cl f_check_letters) := by
  obtain ⟨fd_check_between, D_check_between⟩ := c.def_ 4 (d := df_check_between) rfl
  have o_check_between := ok_check_between (P := P) (w := w) c t X G D_check_between
  exact fn_dv (st := s_check_letters) (Un := []) D sc_check_letters rfl (by decide) (.inl rfl) (nn := true) (fun h => rfl) fun cdv A outer s H E hr hg => d_check_letters ⟨fun _ => rfl, fun _ => rfl, fun _ _ _ => rfl, h_check_letters⟩ ⟨rfl, fun _ => frees_of c X G (by decide +kernel), fun _ => rfl, fun _ => hr.mono (Nat.zero_le _), fun _ => hg⟩ ⟨fun _ => passes_of rfl⟩
    (cal_of hr hg o_check_between (glo_of c X G (by decide +kernel)) D_check_between.kp (D_check_between.bindsN fun _ _ _ _ _ _ us hl => match us, hl with | [_, _, _], _ => rfl) (by decide) (by decide))
theorem sc_reduced : FnScope N_reduced ["n", "word"] (defScope s_reduced) := ⟨rfl, rfl, rfl, by decide +kernel, rfl, by decide +kernel, by decide +kernel⟩
theorem ok_reduced (c : He.SaysD faL fnL K) (t : exL K = true) (X : K.In base) (G : base.Ns mainGlobals mg) {fd : FuncData} (D : FnIs K "reduced" df_reduced fd) : FnG P w K mg base 5 (He.ga K "reduced") fd ["n", "word"] (spD K 2 [] .cl f_reduced) := by
  obtain ⟨fd_check_letters, D_check_letters⟩ := c.def_ 14 (d := df_check_letters) rfl
  have o_check_letters := ok_check_letters (P := P) (w := w) c t X G D_check_letters
  obtain ⟨fd_is_word_in, D_is_word_in⟩ := c.def_ 5 (d := df_is_word_in) rfl
  have o_is_word_in := ok_is_word_in (P := P) (w := w) c t X G D_is_word_in
  obtain ⟨fd_reduced_in, D_reduced_in⟩ := c.def_ 6 (d := df_reduced_in) rfl
  have o_reduced_in := ok_reduced_in (P := P) (w := w) c t X G D_reduced_in
  exact fn_dv (st := s_reduced) (Un := []) D sc_reduced rfl (by decide) (.inl rfl) (nn := false) (fun h => by cases h) fun cdv A outer s H E hr hg => d_reduced ⟨fun _ => rfl, fun _ => rfl, fun _ _ _ => rfl, h_reduced⟩ ⟨rfl, fun _ => frees_of c X G (by decide +kernel), fun _ => rfl, fun _ => hr.mono (Nat.zero_le _), fun _ => hg⟩ ⟨fun _ => passes_of rfl⟩
    (cal_of hr hg o_check_letters (glo_of c X G (by decide +kernel)) D_check_letters.kp (D_check_letters.bindsN fun _ _ _ _ _ _ us hl => match us, hl with | [_], _ => rfl) (by decide) (by decide))
    (cal_of hr hg o_is_word_in (glo_of c X G (by decide +kernel)) D_is_word_in.kp (D_is_word_in.bindsN fun _ _ _ _ _ _ us hl => match us, hl with | [_, _], _ => rfl) (by decide) (by decide))
    (cal_of hr hg o_reduced_in (glo_of c X G (by decide +kernel)) D_reduced_in.kp (D_reduced_in.bindsN fun _ _ _ _ _ _ us hl => match us, hl with | [_], _ => rfl) (by decide) (by decide))
theorem sc__law_begin : FnScope N__law_begin ["script"] (defScope s__law_begin) := ⟨rfl, rfl, rfl, by decide +kernel, rfl, by decide +kernel, by decide +kernel⟩
theorem ok__law_begin (c : He.SaysD faL fnL K) (t : exL K = true) (X : K.In base) (G : base.Ns mainGlobals mg) {fd : FuncData} (D : FnIs K "_law_begin" df__law_begin fd) : FnG P w K mg base 1 (He.ga K "_law_begin") fd ["script"] (spD K 1 [] .fr f__law_begin) := by
  exact fn_dv (st := s__law_begin) (Un := []) D sc__law_begin rfl (by decide) (.inr rfl) (nn := false) (fun h => by cases h) fun cdv A outer s H E hr hg => d__law_begin ⟨fun _ => rfl, fun _ => rfl, fun _ _ _ => rfl, h__law_begin⟩ ⟨rfl, fun _ => frees_of c X G (by decide +kernel), fun _ => rfl, fun _ => hr.mono (Nat.zero_le _), fun _ => hg⟩ ⟨fun _ => passes_of rfl⟩
theorem sc__law_draw : FnScope N__law_draw ["state", "many"] (defScope s__law_draw) := ⟨rfl, rfl, rfl, by decide +kernel, rfl, by decide +kernel, by decide +kernel⟩
theorem ok__law_draw (c : He.SaysD faL fnL K) (t : exL K = true) (X : K.In base) (G : base.Ns mainGlobals mg) {fd : FuncData} (D : FnIs K "_law_draw" df__law_draw fd) : FnG P w K mg base 1 (He.ga K "_law_draw") fd ["state", "many"] (spD K 2 [0] .cl f__law_draw) := by
  exact fn_dv (st := s__law_draw) (Un := []) D sc__law_draw rfl (by decide) (.inl rfl) (nn := false) (fun h => by cases h) fun cdv A outer s H E hr hg => d__law_draw ⟨fun _ => rfl, fun _ => rfl, fun _ _ _ => rfl, h__law_draw⟩ ⟨rfl, fun _ => frees_of c X G (by decide +kernel), fun _ => rfl, fun _ => hr.mono (Nat.zero_le _), fun _ => hg⟩ ⟨fun _ => passes_of rfl⟩
theorem sc__law_word : FnScope N__law_word ["state", "n", "most"] (defScope s__law_word) := ⟨rfl, rfl, rfl, by decide +kernel, rfl, by decide +kernel, by decide +kernel⟩
theorem ok__law_word (c : He.SaysD faL fnL K) (t : exL K = true) (X : K.In base) (G : base.Ns mainGlobals mg) {fd : FuncData} (D : FnIs K "_law_word" df__law_word fd) : FnG P w K mg base 2 (He.ga K "_law_word") fd ["state", "n", "most"] (spD K 3 [0] .cl f__law_word) := by
  obtain ⟨fd__law_draw, D__law_draw⟩ := c.def_ 17 (d := df__law_draw) rfl
  have o__law_draw := ok__law_draw (P := P) (w := w) c t X G D__law_draw
  exact fn_dv (st := s__law_word) (Un := []) D sc__law_word rfl (by decide) (.inl rfl) (nn := false) (fun h => by cases h) fun cdv A outer s H E hr hg => d__law_word ⟨fun _ => rfl, fun _ => rfl, fun _ _ _ => rfl, h__law_word⟩ ⟨rfl, fun _ => frees_of c X G (by decide +kernel), fun _ => rfl, fun _ => hr.mono (Nat.zero_le _), fun _ => hg⟩ ⟨fun _ => passes_of rfl⟩
    (cal_of hr hg o__law_draw (glo_of c X G (by decide +kernel)) D__law_draw.kp (D__law_draw.bindsN fun _ _ _ _ _ _ us hl => match us, hl with | [_, _], _ => rfl) (by decide) (by decide))
theorem sc__law_by : FnScope N__law_by ["one", "other"] (defScope s__law_by) := ⟨rfl, rfl, rfl, by decide +kernel, rfl, by decide +kernel, by decide +kernel⟩
theorem ok__law_by (c : He.SaysD faL fnL K) (t : exL K = true) (X : K.In base) (G : base.Ns mainGlobals mg) {fd : FuncData} (D : FnIs K "_law_by" df__law_by fd) : FnG P w K mg base 1 (He.ga K "_law_by") fd ["one", "other"] (spD K 2 [] .cl f__law_by) := by
  exact fn_dv (st := s__law_by) (Un := []) D sc__law_by rfl (by decide) (.inl rfl) (nn := false) (fun h => by cases h) fun cdv A outer s H E hr hg => d__law_by ⟨fun _ => rfl, fun _ => rfl, fun _ _ _ => rfl, h__law_by⟩ ⟨rfl, fun _ => frees_of c X G (by decide +kernel), fun _ => rfl, fun _ => hr.mono (Nat.zero_le _), fun _ => hg⟩ ⟨fun _ => passes_of rfl⟩
theorem sc__law_matrix : FnScope N__law_matrix ["state"] (defScope s__law_matrix) := ⟨rfl, rfl, rfl, by decide +kernel, rfl, by decide +kernel, by decide +kernel⟩
theorem ok__law_matrix (c : He.SaysD faL fnL K) (t : exL K = true) (X : K.In base) (G : base.Ns mainGlobals mg) {fd : FuncData} (D : FnIs K "_law_matrix" df__law_matrix fd) : FnG P w K mg base 2 (He.ga K "_law_matrix") fd ["state"] (spD K 1 [0] .cl f__law_matrix) := by
  obtain ⟨fd__law_draw, D__law_draw⟩ := c.def_ 17 (d := df__law_draw) rfl
  have o__law_draw := ok__law_draw (P := P) (w := w) c t X G D__law_draw
  obtain ⟨fd__law_by, D__law_by⟩ := c.def_ 19 (d := df__law_by) rfl
  have o__law_by := ok__law_by (P := P) (w := w) c t X G D__law_by
  exact fn_dv (st := s__law_matrix) (Un := []) D sc__law_matrix rfl (by decide) (.inl rfl) (nn := false) (fun h => by cases h) fun cdv A outer s H E hr hg => d__law_matrix ⟨fun _ => rfl, fun _ => rfl, fun _ _ _ => rfl, h__law_matrix⟩ ⟨rfl, fun _ => frees_of c X G (by decide +kernel), fun _ => rfl, fun _ => hr.mono (Nat.zero_le _), fun _ => hg⟩ ⟨fun _ => passes_of rfl⟩
    (cal_of hr hg o__law_draw (glo_of c X G (by decide +kernel)) D__law_draw.kp (D__law_draw.bindsN fun _ _ _ _ _ _ us hl => match us, hl with | [_, _], _ => rfl) (by decide) (by decide))
    (cal_of hr hg o__law_by (glo_of c X G (by decide +kernel)) D__law_by.kp (D__law_by.bindsN fun _ _ _ _ _ _ us hl => match us, hl with | [_, _], _ => rfl) (by decide) (by decide))
theorem sc__law_along : FnScope N__law_along ["word", "a", "b"] (defScope s__law_along) := ⟨rfl, rfl, rfl, by decide +kernel, rfl, by decide +kernel, by decide +kernel⟩
theorem ok__law_along (c : He.SaysD faL fnL K) (t : exL K = true) (X : K.In base) (G : base.Ns mainGlobals mg) {fd : FuncData} (D : FnIs K "_law_along" df__law_along fd) : FnG P w K mg base 2 (He.ga K "_law_along") fd ["word", "a", "b"] (spD K 3 [] .cl f__law_along) := by
  obtain ⟨fd__law_by, D__law_by⟩ := c.def_ 19 (d := df__law_by) rfl
  have o__law_by := ok__law_by (P := P) (w := w) c t X G D__law_by
  exact fn_dv (st := s__law_along) (Un := []) D sc__law_along rfl (by decide) (.inl rfl) (nn := false) (fun h => by cases h) fun cdv A outer s H E hr hg => d__law_along ⟨fun _ => rfl, fun _ => rfl, fun _ _ _ => rfl, h__law_along⟩ ⟨rfl, fun _ => frees_of c X G (by decide +kernel), fun _ => rfl, fun _ => hr.mono (Nat.zero_le _), fun _ => hg⟩ ⟨fun _ => passes_of rfl⟩
    (cal_of hr hg o__law_by (glo_of c X G (by decide +kernel)) D__law_by.kp (D__law_by.bindsN fun _ _ _ _ _ _ us hl => match us, hl with | [_, _], _ => rfl) (by decide) (by decide))
theorem sc__law_no_polynomials : FnScope N__law_no_polynomials ["told"] (defScope s__law_no_polynomials) := ⟨rfl, rfl, rfl, by decide +kernel, rfl, by decide +kernel, by decide +kernel⟩
theorem ok__law_no_polynomials (c : He.SaysD faL fnL K) (t : exL K = true) (X : K.In base) (G : base.Ns mainGlobals mg) {fd : FuncData} (D : FnIs K "_law_no_polynomials" df__law_no_polynomials fd) : FnG P w K mg base 1 (He.ga K "_law_no_polynomials") fd ["told"] (spD K 1 [] .cl f__law_no_polynomials) := by
  exact fn_dv (st := s__law_no_polynomials) (Un := []) D sc__law_no_polynomials rfl (by decide) (.inl rfl) (nn := false) (fun h => by cases h) fun cdv A outer s H E hr hg => d__law_no_polynomials ⟨fun _ => rfl, fun _ => rfl, fun _ _ _ => rfl, h__law_no_polynomials⟩ ⟨rfl, fun _ => frees_of c X G (by decide +kernel), fun _ => rfl, fun _ => hr.mono (Nat.zero_le _), fun _ => hg⟩ ⟨fun _ => passes_of rfl⟩
theorem sc_law : FnScope N_law ["script"] (defScope s_law) := ⟨rfl, rfl, rfl, by decide +kernel, rfl, by decide +kernel, by decide +kernel⟩
theorem ok_law (c : He.SaysD faL fnL K) (t : exL K = true) (X : K.In base) (G : base.Ns mainGlobals mg) {fd : FuncData} (D : FnIs K "law" df_law fd) : FnG P w K mg base 6 (He.ga K "law") fd ["script"] (spD K 1 [] .cl f_law) := by
  obtain ⟨fd__law_begin, D__law_begin⟩ := c.def_ 16 (d := df__law_begin) rfl
  have o__law_begin := ok__law_begin (P := P) (w := w) c t X G D__law_begin
  obtain ⟨fd__law_word, D__law_word⟩ := c.def_ 18 (d := df__law_word) rfl
  have o__law_word := ok__law_word (P := P) (w := w) c t X G D__law_word
  obtain ⟨fd_trace_of, D_trace_of⟩ := c.def_ 12 (d := df_trace_of) rfl
  have o_trace_of := ok_trace_of (P := P) (w := w) c t X G D_trace_of
  obtain ⟨fd__law_no_polynomials, D__law_no_polynomials⟩ := c.def_ 22 (d := df__law_no_polynomials) rfl
  have o__law_no_polynomials := ok__law_no_polynomials (P := P) (w := w) c t X G D__law_no_polynomials
  obtain ⟨fd_is_polynomial, D_is_polynomial⟩ := c.def_ 7 (d := df_is_polynomial) rfl
  have o_is_polynomial := ok_is_polynomial (P := P) (w := w) c t X G D_is_polynomial
  obtain ⟨fd__law_matrix, D__law_matrix⟩ := c.def_ 20 (d := df__law_matrix) rfl
  have o__law_matrix := ok__law_matrix (P := P) (w := w) c t X G D__law_matrix
  obtain ⟨fd__law_by, D__law_by⟩ := c.def_ 19 (d := df__law_by) rfl
  have o__law_by := ok__law_by (P := P) (w := w) c t X G D__law_by
  obtain ⟨fd__law_along, D__law_along⟩ := c.def_ 21 (d := df__law_along) rfl
  have o__law_along := ok__law_along (P := P) (w := w) c t X G D__law_along
  obtain ⟨fd_value_of, D_value_of⟩ := c.def_ 13 (d := df_value_of) rfl
  have o_value_of := ok_value_of (P := P) (w := w) c t X G D_value_of
  obtain ⟨fd__law_draw, D__law_draw⟩ := c.def_ 17 (d := df__law_draw) rfl
  have o__law_draw := ok__law_draw (P := P) (w := w) c t X G D__law_draw
  obtain ⟨fd_reduced, D_reduced⟩ := c.def_ 15 (d := df_reduced) rfl
  have o_reduced := ok_reduced (P := P) (w := w) c t X G D_reduced
  exact fn_dv (st := s_law) (Un := []) D sc_law rfl (by decide) (.inl rfl) (nn := false) (fun h => by cases h) fun cdv A outer s H E hr hg => d_law ⟨fun _ => rfl, fun _ => rfl, fun _ _ _ => rfl, h_law⟩ ⟨rfl, fun _ => frees_of c X G (by decide +kernel), fun _ => rfl, fun _ => hr.mono (Nat.zero_le _), fun _ => hg⟩ ⟨fun _ => passes_of rfl⟩
    (cal_of hr hg o__law_begin (glo_of c X G (by decide +kernel)) D__law_begin.kp (D__law_begin.bindsN fun _ _ _ _ _ _ us hl => match us, hl with | [_], _ => rfl) (by decide) (by decide))
    (cal_of hr hg o__law_word (glo_of c X G (by decide +kernel)) D__law_word.kp (D__law_word.bindsN fun _ _ _ _ _ _ us hl => match us, hl with | [_, _, _], _ => rfl) (by decide) (by decide))
    (cal_of hr hg o_trace_of (glo_of c X G (by decide +kernel)) D_trace_of.kp (D_trace_of.bindsN fun _ _ _ _ _ _ us hl => match us, hl with | [_], _ => rfl) (by decide) (by decide))
    (cal_of hr hg o__law_no_polynomials (glo_of c X G (by decide +kernel)) D__law_no_polynomials.kp (D__law_no_polynomials.bindsN fun _ _ _ _ _ _ us hl => match us, hl with | [_], _ => rfl) (by decide) (by decide))
    (cal_of hr hg o_is_polynomial (glo_of c X G (by decide +kernel)) D_is_polynomial.kp (D_is_polynomial.bindsN fun _ _ _ _ _ _ us hl => match us, hl with | [_], _ => rfl) (by decide) (by decide))
    (cal_of hr hg o__law_matrix (glo_of c X G (by decide +kernel)) D__law_matrix.kp (D__law_matrix.bindsN fun _ _ _ _ _ _ us hl => match us, hl with | [_], _ => rfl) (by decide) (by decide))
    (cal_of hr hg o__law_by (glo_of c X G (by decide +kernel)) D__law_by.kp (D__law_by.bindsN fun _ _ _ _ _ _ us hl => match us, hl with | [_, _], _ => rfl) (by decide) (by decide))
    (cal_of hr hg o__law_along (glo_of c X G (by decide +kernel)) D__law_along.kp (D__law_along.bindsN fun _ _ _ _ _ _ us hl => match us, hl with | [_, _, _], _ => rfl) (by decide) (by decide))
    (cal_of hr hg o_value_of (glo_of c X G (by decide +kernel)) D_value_of.kp (D_value_of.bindsN fun _ _ _ _ _ _ us hl => match us, hl with | [_, _, _, _], _ => rfl) (by decide) (by decide))
    (cal_of hr hg o__law_draw (glo_of c X G (by decide +kernel)) D__law_draw.kp (D__law_draw.bindsN fun _ _ _ _ _ _ us hl => match us, hl with | [_, _], _ => rfl) (by decide) (by decide))
    (cal_of hr hg o_reduced (glo_of c X G (by decide +kernel)) D_reduced.kp (D_reduced.bindsN fun _ _ _ _ _ _ us hl => match us, hl with | [_, _], _ => rfl) (by decide) (by decide))
    (calk_of hr hg o_trace_of (glo_of c X G (by decide +kernel)) D_trace_of.kp (keyw_of D_trace_of fun _ _ _ _ _ _ us ws h1 h2 => match us, ws, h1, h2 with | [], [_], _, _ => rfl) (by decide) rfl (by decide))
    (calk_of hr hg o_is_polynomial (glo_of c X G (by decide +kernel)) D_is_polynomial.kp (keyw_of D_is_polynomial fun _ _ _ _ _ _ us ws h1 h2 => match us, ws, h1, h2 with | [], [_], _, _ => rfl) (by decide) rfl (by decide))
    (calk_of hr hg o_value_of (glo_of c X G (by decide +kernel)) D_value_of.kp (keyw_of D_value_of fun _ _ _ _ _ _ us ws h1 h2 => match us, ws, h1, h2 with | [], [_, _, _, _], _, _ => rfl) (by decide) rfl (by decide))
end
end DV

namespace K28
set_option linter.all false
set_option maxHeartbeats 2000000
/-! the ring of words, by coefficients -/
abbrev Cf := Int → Int → Int → Int
structure P4 where
  o : Cf
  a : Cf
  b : Cf
  c : Cf
def RA (p : P4) : P4 := ⟨fun i j k => -p.a i j k + p.b i j (k - 1) - p.b (i - 1) (j - 1) k - p.c i (j - 1) k, fun i j k => p.o i j k + p.a (i - 1) j k + p.b i (j - 1) k + p.c i j (k - 1), fun i j k => p.b (i - 1) j k + p.c i j k, fun i j k => -p.b i j k⟩
def RB (p : P4) : P4 := ⟨fun i j k => -p.b i j k, fun i j k => -p.c i j k, fun i j k => p.o i j k + p.b i (j - 1) k, fun i j k => p.a i j k + p.c i (j - 1) k⟩
def LA (p : P4) : P4 := ⟨fun i j k => -p.a i j k, fun i j k => p.o i j k + p.a (i - 1) j k, fun i j k => -p.c i j k, fun i j k => p.b i j k + p.c (i - 1) j k⟩
def LB (p : P4) : P4 := ⟨fun i j k => p.a i j (k - 1) - p.a (i - 1) (j - 1) k - p.b i j k - p.c (i - 1) j k, fun i j k => p.a i (j - 1) k + p.c i j k, fun i j k => p.o i j k + p.a (i - 1) j k + p.b i (j - 1) k + p.c i j (k - 1), fun i j k => -p.a i j k⟩
def subX (p q : P4) : P4 := ⟨fun i j k => p.o (i - 1) j k - q.o i j k, fun i j k => p.a (i - 1) j k - q.a i j k, fun i j k => p.b (i - 1) j k - q.b i j k, fun i j k => p.c (i - 1) j k - q.c i j k⟩
def subY (p q : P4) : P4 := ⟨fun i j k => p.o i (j - 1) k - q.o i j k, fun i j k => p.a i (j - 1) k - q.a i j k, fun i j k => p.b i (j - 1) k - q.b i j k, fun i j k => p.c i (j - 1) k - q.c i j k⟩
def R (l : Int) (p : P4) : P4 := if l = 1 then RA p else if l = 2 then RB p else if l = -1 then subX p (RA p) else subY p (RB p)
def Le (l : Int) (p : P4) : P4 := if l = 1 then LA p else if l = 2 then LB p else if l = -1 then subX p (LA p) else subY p (LB p)
def tau (p : P4) : Cf := fun i j k => 2 * p.o i j k + p.a (i - 1) j k + p.b i (j - 1) k + p.c i j (k - 1)
def iot (p : P4) : P4 := ⟨fun i j k => p.o i j k + p.a (i - 1) j k + p.b i (j - 1) k + p.c i j (k - 1), fun i j k => -p.a i j k, fun i j k => -p.b i j k, fun i j k => -p.c i j k⟩
def dl : Cf := fun i j k => if i = 0 ∧ j = 0 ∧ k = 0 then 1 else 0
def e1 : P4 := ⟨dl, fun _ _ _ => 0, fun _ _ _ => 0, fun _ _ _ => 0⟩
abbrev Lt (l : Int) : Prop := l = 1 ∨ l = -1 ∨ l = 2 ∨ l = -2
def run (w : List Int) (p : P4) : P4 := w.foldl (fun p l => R l p) p
def T (w : List Int) : Cf := tau (run w e1)
theorem P4.ext' {p q : P4} (h1 : ∀ i j k, p.o i j k = q.o i j k) (h2 : ∀ i j k, p.a i j k = q.a i j k) (h3 : ∀ i j k, p.b i j k = q.b i j k) (h4 : ∀ i j k, p.c i j k = q.c i j k) : p = q := by
  cases p; cases q
  congr
  · funext i j k; exact h1 i j k
  · funext i j k; exact h2 i j k
  · funext i j k; exact h3 i j k
  · funext i j k; exact h4 i j k
local macro_rules | `(tactic| walk_at "klin") => `(tactic| (apply P4.ext' <;> intro i j k <;> simp [R, Le, RA, RB, LA, LB, subX, subY, iot, e1] <;> omega))
theorem R_L (l m : Int) (hl : Lt l) (hm : Lt m) (p : P4) : Le l (R m p) = R m (Le l p) := by
  rcases hl with rfl | rfl | rfl | rfl <;> rcases hm with rfl | rfl | rfl | rfl <;> walk_at "klin"
theorem R_R (l : Int) (hl : Lt l) (p : P4) : R (-l) (R l p) = p := by
  rcases hl with rfl | rfl | rfl | rfl <;> walk_at "klin"
theorem L_e1 (l : Int) (hl : Lt l) : Le l e1 = R l e1 := by
  rcases hl with rfl | rfl | rfl | rfl <;> walk_at "klin"
theorem iot_e1 : iot e1 = e1 := by walk_at "klin"
theorem iot_R (l : Int) (hl : Lt l) (p : P4) : iot (R l p) = Le (-l) (iot p) := by
  rcases hl with rfl | rfl | rfl | rfl <;> walk_at "klin"
theorem tau_L (l : Int) (hl : Lt l) (p : P4) : tau (Le l p) = tau (R l p) := by
  rcases hl with rfl | rfl | rfl | rfl <;> funext i j k <;> simp [tau, R, Le, RA, RB, LA, LB, subX, subY] <;> omega
theorem tau_iot (p : P4) : tau (iot p) = tau p := by
  funext i j k
  simp [tau, iot]
  omega
abbrev LtAll (w : List Int) : Prop := ∀ l ∈ w, Lt l
theorem Lt.neg {l : Int} (h : Lt l) : Lt (-l) := by unfold Lt at *; omega
theorem run_app (u v : List Int) (p : P4) : run (u ++ v) p = run v (run u p) := List.foldl_append ..
theorem L_run (l : Int) (hl : Lt l) : ∀ (w : List Int) (p : P4), LtAll w → Le l (run w p) = run w (Le l p)
  | [], _, _ => rfl
  | m :: w, p, h => by
    show Le l (run w (R m p)) = run w (R m (Le l p))
    rw [L_run l hl w _ (fun x hx => h x (List.mem_cons_of_mem _ hx)), R_L l m hl (h m (List.mem_cons_self ..))]
theorem T_snoc (l : Int) (hl : Lt l) (w : List Int) (h : LtAll w) : T (w ++ [l]) = T (l :: w) := by
  unfold T
  rw [run_app]
  show tau (R l (run w e1)) = tau (run w (R l e1))
  rw [← tau_L l hl, L_run l hl w _ h, L_e1 l hl]
theorem T_rot : ∀ (u v : List Int), LtAll u → LtAll v → T (u ++ v) = T (v ++ u)
  | [], v, _, _ => by rw [List.append_nil]; rfl
  | l :: u, v, hu, hv => by
    have hl := hu l (List.mem_cons_self ..)
    have hu' : LtAll u := fun x hx => hu x (List.mem_cons_of_mem _ hx)
    have huv : LtAll (u ++ v) := fun x hx => (List.mem_append.mp hx).elim (hu' x) (hv x)
    have h1 : T (l :: (u ++ v)) = T (u ++ v ++ [l]) := (T_snoc l hl _ huv).symm
    have hv' : LtAll (v ++ [l]) := fun x hx => (List.mem_append.mp hx).elim (hv x) fun q => by
      obtain rfl := List.mem_singleton.mp q
      exact hl
    have h2 := T_rot u (v ++ [l]) hu' hv'
    show T (l :: (u ++ v)) = T (v ++ (l :: u))
    rw [h1, List.append_assoc, h2, List.append_assoc]
    rfl
def back (w : List Int) : List Int := w.reverse.map fun l => -l
theorem back_lt {w : List Int} (h : LtAll w) : LtAll (back w) := fun l hl => by
  obtain ⟨m, hm, rfl⟩ := List.mem_map.mp hl
  exact (h m (List.mem_reverse.mp hm)).neg
theorem run_back : ∀ (u : List Int), LtAll u.reverse → run (back u.reverse) e1 = iot (run u.reverse e1)
  | [], _ => iot_e1.symm
  | l :: u, h => by
    have hl : Lt l := h l (List.mem_reverse.mpr (List.mem_cons_self ..))
    have hu : LtAll u.reverse := fun x hx => h x (List.mem_reverse.mpr (List.mem_cons_of_mem _ (List.mem_reverse.mp hx)))
    have e : back (l :: u).reverse = -l :: back u.reverse := by simp [back]
    rw [e]
    show run (back u.reverse) (R (-l) e1) = _
    rw [← L_e1 _ hl.neg, ← L_run _ hl.neg _ _ (back_lt hu), run_back u hu, List.reverse_cons, run_app]
    exact (iot_R l hl _).symm
theorem T_back (w : List Int) (h : LtAll w) : T (back w) = T w := by
  have := run_back w.reverse (by rw [List.reverse_reverse]; exact h)
  rw [List.reverse_reverse] at this
  unfold T
  rw [this, tau_iot]
theorem run_ins (u v : List Int) (l : Int) (hl : Lt l) (p : P4) : run (u ++ l :: -l :: v) p = run (u ++ v) p := by
  rw [run_app, run_app]
  show run v (R (-l) (R l (run u p))) = _
  rw [R_R l hl]
theorem T_conj (w : List Int) (l : Int) (hl : Lt l) (h : LtAll w) : T (l :: (w ++ [-l])) = T w := by
  have h' : LtAll (w ++ [-l]) := fun x hx => (List.mem_append.mp hx).elim (h x) fun q => by
    obtain rfl := List.mem_singleton.mp q
    exact hl.neg
  rw [← T_snoc l hl _ h', List.append_assoc]
  unfold T
  have e := run_ins w [] (-l) hl.neg e1
  rw [Int.neg_neg, List.append_nil] at e
  exact congrArg tau e
/-- the word with neighbours left out, by a stack -/
def red : List Int → List Int → List Int
  | st, [] => st.reverse
  | [], l :: w => red [l] w
  | t :: st, l :: w => if t = -l then red st w else red (l :: t :: st) w
theorem run_red : ∀ (w st : List Int), LtAll w → LtAll st → run (red st w) e1 = run w (run st.reverse e1) ∧ LtAll (red st w)
  | [], st, _, hs => ⟨by cases st <;> rfl, by
    cases st with
    | nil => exact hs
    | cons t st => exact fun x hx => hs x (List.mem_reverse.mp hx)⟩
  | l :: w, [], hw, _ => by
    have hl := hw l (List.mem_cons_self ..)
    obtain ⟨h1, h2⟩ := run_red w [l] (fun x hx => hw x (List.mem_cons_of_mem _ hx)) (fun x hx => by
      obtain rfl := List.mem_singleton.mp hx
      exact hl)
    exact ⟨h1, h2⟩
  | l :: w, t :: st, hw, hs => by
    have hl := hw l (List.mem_cons_self ..)
    have ht := hs t (List.mem_cons_self ..)
    have hw' : LtAll w := fun x hx => hw x (List.mem_cons_of_mem _ hx)
    have hs' : LtAll st := fun x hx => hs x (List.mem_cons_of_mem _ hx)
    unfold red
    split
    · rename_i e
      obtain ⟨h1, h2⟩ := run_red w st hw' hs'
      refine ⟨?_, h2⟩
      rw [h1, List.reverse_cons, run_app]
      show _ = run w (R l (R t (run st.reverse e1)))
      have e' : l = -t := by omega
      rw [e', R_R t ht]
    · obtain ⟨h1, h2⟩ := run_red w (l :: t :: st) hw' (fun x hx => (List.mem_cons.mp hx).elim (fun e => e ▸ hl) (hs x))
      refine ⟨?_, h2⟩
      rw [h1, List.reverse_cons, run_app]
      rfl
theorem red_sub : ∀ (w st : List Int), (red st w).length ≤ st.length + w.length
  | [], st => by cases st <;> simp [red]
  | l :: w, [] => by
    have := red_sub w [l]
    simp [red] at *
    omega
  | l :: w, t :: st => by
    unfold red
    split
    · have := red_sub w st
      simp at *
      omega
    · have := red_sub w (l :: t :: st)
      simp at *
      omega
theorem T_red (w : List Int) (h : LtAll w) : T (red [] w) = T w := by
  unfold T
  rw [(run_red w [] h (fun _ z => nomatch z)).1]
  rfl

set_option linter.all false
set_option maxHeartbeats 2000000
structure Mt where
  p : Int
  q : Int
  r : Int
  s : Int
def Mt.mul (m n : Mt) : Mt := ⟨m.p * n.p + m.q * n.r, m.p * n.q + m.q * n.s, m.r * n.p + m.s * n.r, m.r * n.q + m.s * n.s⟩
def Mt.tr (m : Mt) : Int := m.p + m.s
def Mt.det (m : Mt) : Int := m.p * m.s - m.q * m.r
def Mt.inv (m : Mt) : Mt := ⟨m.s, -m.q, -m.r, m.p⟩
def Mt.one : Mt := ⟨1, 0, 0, 1⟩
/-- values of the four parts -/
structure V4 where
  o : Int
  a : Int
  b : Int
  c : Int
def VA (x y z : Int) (v : V4) : V4 := ⟨-v.a + z * v.b - x * y * v.b - y * v.c, v.o + x * v.a + y * v.b + z * v.c, x * v.b + v.c, -v.b⟩
def VB (x y z : Int) (v : V4) : V4 := ⟨-v.b, -v.c, v.o + y * v.b, v.a + y * v.c⟩
def vsub (t : Int) (v u : V4) : V4 := ⟨t * v.o - u.o, t * v.a - u.a, t * v.b - u.b, t * v.c - u.c⟩
def VR (x y z : Int) (l : Int) (v : V4) : V4 := if l = 1 then VA x y z v else if l = 2 then VB x y z v else if l = -1 then vsub x v (VA x y z v) else vsub y v (VB x y z v)
def vtau (x y z : Int) (v : V4) : Int := 2 * v.o + x * v.a + y * v.b + z * v.c
def Mt.ev (A B : Mt) (v : V4) : Mt := ⟨v.o + v.a * A.p + v.b * B.p + v.c * (A.mul B).p, v.a * A.q + v.b * B.q + v.c * (A.mul B).q, v.a * A.r + v.b * B.r + v.c * (A.mul B).r, v.o + v.a * A.s + v.b * B.s + v.c * (A.mul B).s⟩
def Mt.let (A B : Mt) (l : Int) : Mt := if l = 1 then A else if l = 2 then B else if l = -1 then A.inv else B.inv
theorem Mt.ext' {m n : Mt} (h1 : m.p = n.p) (h2 : m.q = n.q) (h3 : m.r = n.r) (h4 : m.s = n.s) : m = n := by
  cases m; cases n; simp_all
theorem ev_A (A B : Mt) (hA : A.det = 1) (hB : B.det = 1) (v : V4) : Mt.ev A B (VA A.tr B.tr (A.mul B).tr v) = (Mt.ev A B v).mul A := by
  obtain ⟨p, q, r, s⟩ := A
  obtain ⟨p2, q2, r2, s2⟩ := B
  obtain ⟨o, a, b, c⟩ := v
  simp only [Mt.det] at hA hB
  apply Mt.ext' <;> simp only [Mt.ev, VA, Mt.mul, Mt.tr] <;> grind
theorem ev_B (A B : Mt) (hA : A.det = 1) (hB : B.det = 1) (v : V4) : Mt.ev A B (VB A.tr B.tr (A.mul B).tr v) = (Mt.ev A B v).mul B := by
  obtain ⟨p, q, r, s⟩ := A
  obtain ⟨p2, q2, r2, s2⟩ := B
  obtain ⟨o, a, b, c⟩ := v
  simp only [Mt.det] at hA hB
  apply Mt.ext' <;> simp only [Mt.ev, VB, Mt.mul, Mt.tr] <;> grind
theorem ev_sub (A B : Mt) (t : Int) (v u : V4) : Mt.ev A B (vsub t v u) = ⟨t * (Mt.ev A B v).p - (Mt.ev A B u).p, t * (Mt.ev A B v).q - (Mt.ev A B u).q, t * (Mt.ev A B v).r - (Mt.ev A B u).r, t * (Mt.ev A B v).s - (Mt.ev A B u).s⟩ := by
  apply Mt.ext' <;> simp only [Mt.ev, vsub] <;> grind
theorem mul_inv (m n : Mt) : (⟨n.tr * m.p - (m.mul n).p, n.tr * m.q - (m.mul n).q, n.tr * m.r - (m.mul n).r, n.tr * m.s - (m.mul n).s⟩ : Mt) = m.mul n.inv := by
  apply Mt.ext' <;> simp only [Mt.mul, Mt.tr, Mt.inv] <;> grind
theorem ev_R (A B : Mt) (hA : A.det = 1) (hB : B.det = 1) (l : Int) (v : V4) : Mt.ev A B (VR A.tr B.tr (A.mul B).tr l v) = (Mt.ev A B v).mul (Mt.let A B l) := by
  unfold VR Mt.let
  split
  · exact ev_A A B hA hB v
  split
  · exact ev_B A B hA hB v
  split
  · rw [ev_sub, ev_A A B hA hB v]
    exact mul_inv _ _
  · rw [ev_sub, ev_B A B hA hB v]
    exact mul_inv _ _
theorem tau_ev (A B : Mt) (v : V4) : vtau A.tr B.tr (A.mul B).tr v = (Mt.ev A B v).tr := by
  simp only [vtau, Mt.ev, Mt.tr, Mt.mul]
  grind
theorem mul_det {m n : Mt} (h1 : m.det = 1) (h2 : n.det = 1) : (m.mul n).det = 1 := by
  simp only [Mt.det, Mt.mul] at *
  grind
def vrun (x y z : Int) (w : List Int) (v : V4) : V4 := w.foldl (fun v l => VR x y z l v) v
def along (A B : Mt) (w : List Int) (m : Mt) : Mt := w.foldl (fun m l => m.mul (Mt.let A B l)) m
theorem ev_run (A B : Mt) (hA : A.det = 1) (hB : B.det = 1) : ∀ (w : List Int) (v : V4), Mt.ev A B (vrun A.tr B.tr (A.mul B).tr w v) = along A B w (Mt.ev A B v)
  | [], _ => rfl
  | l :: w, v => by
    show Mt.ev A B (vrun A.tr B.tr (A.mul B).tr w (VR A.tr B.tr (A.mul B).tr l v)) = along A B w ((Mt.ev A B v).mul (Mt.let A B l))
    rw [ev_run A B hA hB w _, ev_R A B hA hB]
theorem mul_inv_one {m n : Mt} (h : n.det = 1) : (m.mul n).mul n.inv = m ∧ (m.mul n.inv).mul n = m := by
  simp only [Mt.det] at h
  constructor <;> apply Mt.ext' <;> simp only [Mt.mul, Mt.inv] <;> grind
theorem let_neg {A B : Mt} {l : Int} (h : Lt l) (hA : A.det = 1) (hB : B.det = 1) (m : Mt) : (m.mul (Mt.let A B l)).mul (Mt.let A B (-l)) = m := by
  rcases h with rfl | rfl | rfl | rfl
  · exact (mul_inv_one hA).1
  · exact (mul_inv_one hA).2
  · exact (mul_inv_one hB).1
  · exact (mul_inv_one hB).2
theorem along_app (A B : Mt) (u v : List Int) (m : Mt) : along A B (u ++ v) m = along A B v (along A B u m) := List.foldl_append ..
theorem along_red {A B : Mt} (hA : A.det = 1) (hB : B.det = 1) (m : Mt) : ∀ (w st : List Int), LtAll w → LtAll st → along A B (red st w) m = along A B w (along A B st.reverse m)
  | [], st, _, hs => by cases st <;> rfl
  | l :: w, [], hw, _ => along_red hA hB m w [l] (fun x hx => hw x (List.mem_cons_of_mem _ hx)) (fun x hx => by
      obtain rfl := List.mem_singleton.mp hx
      exact hw _ (List.mem_cons_self ..))
  | l :: w, t :: st, hw, hs => by
    have hl := hw l (List.mem_cons_self ..)
    have ht := hs t (List.mem_cons_self ..)
    have hw' : LtAll w := fun x hx => hw x (List.mem_cons_of_mem _ hx)
    have hs' : LtAll st := fun x hx => hs x (List.mem_cons_of_mem _ hx)
    unfold red
    split
    · rename_i e
      rw [along_red hA hB m w st hw' hs', List.reverse_cons, along_app]
      show _ = along A B w (((along A B st.reverse m).mul (Mt.let A B t)).mul (Mt.let A B l))
      have e' : l = -t := by omega
      rw [e', let_neg ht hA hB]
    · rw [along_red hA hB m w (l :: t :: st) hw' (fun x hx => (List.mem_cons.mp hx).elim (fun e => e ▸ hl) (hs x)), List.reverse_cons, along_app]
      rfl
/-- the polynomial's value at the traces is the trace of the product along the word -/
theorem value_along (A B : Mt) (hA : A.det = 1) (hB : B.det = 1) (w : List Int) (h : LtAll w) : vtau A.tr B.tr (A.mul B).tr (vrun A.tr B.tr (A.mul B).tr (red [] w) ⟨1, 0, 0, 0⟩) = (along A B w Mt.one).tr := by
  rw [tau_ev, ev_run A B hA hB, along_red hA hB _ w [] h (fun _ z => nomatch z)]
  have e : Mt.ev A B ⟨1, 0, 0, 0⟩ = Mt.one := by
    apply Mt.ext' <;> simp only [Mt.ev, Mt.one] <;> grind
  rw [e]
  rfl
/-! ### how great -/
def Mt.le (m : Mt) (n : Nat) : Prop := m.p.natAbs ≤ n ∧ m.q.natAbs ≤ n ∧ m.r.natAbs ≤ n ∧ m.s.natAbs ≤ n
theorem two_prod {a b c d : Int} {m n : Nat} (h1 : a.natAbs ≤ m) (h2 : b.natAbs ≤ n) (h3 : c.natAbs ≤ m) (h4 : d.natAbs ≤ n) : (a * b + c * d).natAbs ≤ 2 * (m * n) := by
  have e1 : (a * b).natAbs ≤ m * n := by rw [Int.natAbs_mul]; exact Nat.mul_le_mul h1 h2
  have e2 : (c * d).natAbs ≤ m * n := by rw [Int.natAbs_mul]; exact Nat.mul_le_mul h3 h4
  omega
theorem Mt.le_mul {m n : Mt} {i j : Nat} (h1 : m.le i) (h2 : n.le j) : (m.mul n).le (2 * (i * j)) := by
  obtain ⟨a1, a2, a3, a4⟩ := h1
  obtain ⟨b1, b2, b3, b4⟩ := h2
  exact ⟨two_prod a1 b1 a2 b3, two_prod a1 b2 a2 b4, two_prod a3 b1 a4 b3, two_prod a3 b2 a4 b4⟩
theorem Mt.le_let {A B : Mt} {n : Nat} (h1 : A.le n) (h2 : B.le n) (l : Int) : (Mt.let A B l).le n := by
  obtain ⟨a1, a2, a3, a4⟩ := h1
  obtain ⟨b1, b2, b3, b4⟩ := h2
  unfold Mt.let
  split
  · exact ⟨a1, a2, a3, a4⟩
  split
  · exact ⟨b1, b2, b3, b4⟩
  split
  · exact ⟨a4, by simp only [Mt.inv, Int.natAbs_neg]; exact a2, by simp only [Mt.inv, Int.natAbs_neg]; exact a3, a1⟩
  · exact ⟨b4, by simp only [Mt.inv, Int.natAbs_neg]; exact b2, by simp only [Mt.inv, Int.natAbs_neg]; exact b3, b1⟩
theorem along_le {A B : Mt} {n : Nat} (h1 : A.le n) (h2 : B.le n) : ∀ (w : List Int) (m : Mt) (j : Nat), m.le j → (along A B w m).le ((2 * n) ^ w.length * j)
  | [], m, j, h => by simpa [along] using h
  | l :: w, m, j, h => by
    have h3 := along_le h1 h2 w _ _ (Mt.le_mul h (Mt.le_let h1 h2 l))
    have e : (2 * n) ^ w.length * (2 * (j * n)) = (2 * n) ^ (l :: w).length * j := by
      rw [List.length_cons, Nat.pow_succ]
      grind
    rw [e] at h3
    exact h3

set_option linter.all false
set_option maxHeartbeats 2000000
/-! polynomials as lists of powers and numbers -/
abbrev Ky := Int × Int × Int
abbrev Pl := List (Ky × Int)
def M (μ : Ky → Int) : Pl → Int
  | [] => 0
  | e :: r => e.2 * μ e.1 + M μ r
def lookT (k : Ky) : Pl → Int
  | [] => 0
  | e :: r => if e.1 = k then e.2 else lookT k r
def putT (L : Pl) (k : Ky) (v : Int) : Pl := if (L.any fun e => decide (e.1 = k)) = true then L.map fun e => if e.1 = k then (e.1, v) else e else L ++ [(k, v)]
def addT (L : Pl) (k : Ky) (v : Int) : Pl := putT L k (lookT k L + v)
def kadd (p k : Ky) : Ky := (p.1 + k.1, p.2.1 + k.2.1, p.2.2 + k.2.2)
def accT (p : Ky) (m : Int) : Pl → Pl → Pl
  | acc, [] => acc
  | acc, e :: r => accT p m (addT acc (kadd p e.1) (m * e.2)) r
def sumT : Pl → List (Ky × Int × Pl) → Pl
  | acc, [] => acc
  | acc, p :: r => sumT (accT p.1 p.2.1 acc p.2.2) r
def nz (L : Pl) : Pl := L.filter fun e => decide (e.2 ≠ 0)
def summedT (ps : List (Ky × Int × Pl)) : Pl := nz (sumT [] ps)
abbrev Nk (L : Pl) : Prop := (L.map (·.1)).Nodup
abbrev inB (n : Nat) (k : Ky) : Prop := (0 ≤ k.1 ∧ k.1 ≤ n) ∧ (0 ≤ k.2.1 ∧ k.2.1 ≤ n) ∧ (0 ≤ k.2.2 ∧ k.2.2 ≤ n)
abbrev Bx (n : Nat) (L : Pl) : Prop := ∀ e ∈ L, inB n e.1
theorem M_app (μ : Ky → Int) : ∀ (L N : Pl), M μ (L ++ N) = M μ L + M μ N
  | [], N => by simp [M]
  | e :: r, N => by
    simp only [List.cons_append, M]
    rw [M_app μ r N]
    omega
theorem M_congr {μ ν : Ky → Int} : ∀ {L : Pl}, (∀ e ∈ L, μ e.1 = ν e.1) → M μ L = M ν L
  | [], _ => rfl
  | e :: r, h => by
    simp only [M]
    rw [h e (List.mem_cons_self ..), M_congr fun x hx => h x (List.mem_cons_of_mem _ hx)]
theorem M_put_in (μ : Ky → Int) (k : Ky) (v : Int) : ∀ (L : Pl), Nk L → (L.any fun e => decide (e.1 = k)) = true → M μ (L.map fun e => if e.1 = k then (e.1, v) else e) = M μ L + (v - lookT k L) * μ k
  | [], _, h => by cases h
  | e :: r, hn, h => by
    simp only [Nk, List.map_cons, List.nodup_cons] at hn
    by_cases z : e.1 = k
    · have hr : (r.map fun e => if e.1 = k then (e.1, v) else e) = r := by
        conv => rhs; rw [← List.map_id r]
        apply List.map_congr_left
        intro x hx
        rw [if_neg]
        · rfl
        intro q
        exact hn.1 (by rw [z, ← q]; exact List.mem_map_of_mem hx)
      simp only [List.map_cons, z, if_true, M, lookT]
      rw [hr]
      grind
    · simp only [List.map_cons, z, if_false, M, lookT]
      rw [M_put_in μ k v r hn.2 (by simpa [z] using h)]
      omega
theorem look_none {k : Ky} : ∀ {L : Pl}, ¬ (L.any fun e => decide (e.1 = k)) = true → lookT k L = 0
  | [], _ => rfl
  | e :: r, h => by
    simp at h
    simp only [lookT]
    rw [if_neg (by intro q; exact h.1 q), look_none (by simpa using h.2)]
theorem M_add (μ : Ky → Int) (L : Pl) (k : Ky) (v : Int) (h : Nk L) : M μ (addT L k v) = M μ L + v * μ k := by
  unfold addT putT
  split
  · rename_i c
    rw [M_put_in μ k _ L h c]
    grind
  · rename_i c
    rw [M_app, look_none c]
    simp [M]
theorem keys_put (L : Pl) (k : Ky) (v : Int) : (putT L k v).map (·.1) = if (L.any fun e => decide (e.1 = k)) = true then L.map (·.1) else L.map (·.1) ++ [k] := by
  unfold putT
  split
  · rw [List.map_map]
    apply List.map_congr_left
    intro e _
    show (if e.1 = k then (e.1, v) else e).1 = e.1
    split <;> rfl
  · rw [List.map_append]
    rfl
theorem Nk_put {L : Pl} (h : Nk L) (k : Ky) (v : Int) : Nk (putT L k v) := by
  unfold Nk
  rw [keys_put]
  split
  · exact h
  · rename_i c
    rw [List.nodup_append]
    refine ⟨h, by simp, fun a ha b hb e => c ?_⟩
    obtain rfl := List.mem_singleton.mp hb
    subst e
    obtain ⟨x, hx, hx2⟩ := List.mem_map.mp ha
    exact List.any_eq_true.mpr ⟨x, hx, by simp [hx2]⟩
theorem bx_iff {n : Nat} {L : Pl} : Bx n L ↔ ∀ k ∈ L.map (·.1), inB n k := by
  constructor
  · intro h k hk
    obtain ⟨x, hx, rfl⟩ := List.mem_map.mp hk
    exact h x hx
  · intro h e he
    exact h _ (List.mem_map_of_mem he)
theorem Bx_put {n : Nat} {L : Pl} (h : Bx n L) {k : Ky} (hk : inB n k) (v : Int) : Bx n (putT L k v) := by
  rw [bx_iff] at h ⊢
  rw [keys_put]
  split
  · exact h
  · intro q hq
    rcases List.mem_append.mp hq with z | z
    · exact h q z
    · obtain rfl := List.mem_singleton.mp z
      exact hk
theorem accT_all (p : Ky) (m : Int) (n n' : Nat) (hp : ∀ k, inB n k → inB n' (kadd p k)) : ∀ (N acc : Pl), Nk acc → Bx n' acc → Bx n N →
    Nk (accT p m acc N) ∧ Bx n' (accT p m acc N) ∧ ∀ μ, M μ (accT p m acc N) = M μ acc + m * M (fun k => μ (kadd p k)) N
  | [], acc, h1, h2, _ => ⟨h1, h2, fun μ => by simp [accT, M]⟩
  | e :: r, acc, h1, h2, h3 => by
    obtain ⟨q1, q2, q3⟩ := accT_all p m n n' hp r (addT acc (kadd p e.1) (m * e.2)) (Nk_put h1 _ _) (Bx_put h2 (hp _ (h3 e (List.mem_cons_self ..))) _) fun x hx => h3 x (List.mem_cons_of_mem _ hx)
    refine ⟨q1, q2, fun μ => ?_⟩
    have e1 := q3 μ
    rw [M_add μ acc _ _ h1] at e1
    show M μ (accT p m (addT acc (kadd p e.1) (m * e.2)) r) = _
    rw [e1]
    simp only [M]
    grind
/-- what all parts bear -/
def totM (μ : Ky → Int) : List (Ky × Int × Pl) → Int
  | [] => 0
  | p :: r => p.2.1 * M (fun k => μ (kadd p.1 k)) p.2.2 + totM μ r
def okP (n n' : Nat) (p : Ky × Int × Pl) : Prop := (∀ k, inB n k → inB n' (kadd p.1 k)) ∧ Bx n p.2.2
theorem sumT_all (n n' : Nat) : ∀ (ps : List (Ky × Int × Pl)) (acc : Pl), Nk acc → Bx n' acc → (∀ p ∈ ps, okP n n' p) → Nk (sumT acc ps) ∧ Bx n' (sumT acc ps) ∧ ∀ μ, M μ (sumT acc ps) = M μ acc + totM μ ps
  | [], acc, h1, h2, _ => ⟨h1, h2, fun μ => by simp [sumT, totM]⟩
  | p :: r, acc, h1, h2, h3 => by
    obtain ⟨hp, hb⟩ := h3 p (List.mem_cons_self ..)
    obtain ⟨a1, a2, a3⟩ := accT_all p.1 p.2.1 n n' hp p.2.2 acc h1 h2 hb
    obtain ⟨q1, q2, q3⟩ := sumT_all n n' r _ a1 a2 fun x hx => h3 x (List.mem_cons_of_mem _ hx)
    refine ⟨q1, q2, fun μ => ?_⟩
    have e1 := q3 μ
    rw [a3 μ] at e1
    show M μ (sumT (accT p.1 p.2.1 acc p.2.2) r) = _
    rw [e1]
    simp only [totM]
    omega
theorem M_nz (μ : Ky → Int) : ∀ L : Pl, M μ (nz L) = M μ L
  | [] => rfl
  | e :: r => by
    unfold nz
    rw [List.filter_cons]
    split
    · simp only [M]
      have := M_nz μ r
      unfold nz at this
      rw [this]
    · rename_i c
      have c' : e.2 = 0 := by simpa using c
      simp only [M]
      have := M_nz μ r
      unfold nz at this
      rw [this, c']
      omega
theorem nz_sub {L : Pl} : (nz L).Sublist L := List.filter_sublist
theorem Nk_nz {L : Pl} (h : Nk L) : Nk (nz L) := h.sublist (nz_sub.map _)
structure Gd (n : Nat) (L : Pl) : Prop where
  nk : Nk L
  bx : Bx n L
  nz : ∀ e ∈ L, e.2 ≠ 0
theorem summedT_all {n n' : Nat} {ps : List (Ky × Int × Pl)} (h : ∀ p ∈ ps, okP n n' p) : Gd n' (summedT ps) ∧ ∀ μ, M μ (summedT ps) = totM μ ps := by
  obtain ⟨q1, q2, q3⟩ := sumT_all n n' ps [] List.nodup_nil (fun _ z => nomatch z) h
  refine ⟨⟨Nk_nz q1, fun e he => q2 e (nz_sub.subset he), fun e he => ?_⟩, fun μ => ?_⟩
  · have := (List.mem_filter.mp he).2
    simpa using this
  · show M μ (nz _) = _
    rw [M_nz, q3]
    simp [M]
/-! ### coefficients and values -/
def ind (i j k : Int) (q : Ky) : Int := if q = (i, j, k) then 1 else 0
def cf (L : Pl) : Cf := fun i j k => M (ind i j k) L
def mono (x y z : Int) (q : Ky) : Int := x ^ q.1.toNat * y ^ q.2.1.toNat * z ^ q.2.2.toNat
def vl (x y z : Int) (L : Pl) : Int := M (mono x y z) L
theorem ind_add (i j k : Int) (p q : Ky) : ind i j k (kadd p q) = ind (i - p.1) (j - p.2.1) (k - p.2.2) q := by
  obtain ⟨a, b, c⟩ := p
  obtain ⟨d, e, f⟩ := q
  simp only [ind, kadd, Prod.mk.injEq]
  have : (a + d = i ∧ b + e = j ∧ c + f = k) ↔ (d = i - a ∧ e = j - b ∧ f = k - c) := by omega
  simp only [this]
theorem mono_add {x y z : Int} {p q : Ky} {n m : Nat} (hp : inB n p) (hq : inB m q) : mono x y z (kadd p q) = mono x y z p * mono x y z q := by
  obtain ⟨a, b, c⟩ := p
  obtain ⟨d, e, f⟩ := q
  obtain ⟨⟨h1, _⟩, ⟨h2, _⟩, h3, _⟩ := hp
  obtain ⟨⟨g1, _⟩, ⟨g2, _⟩, g3, _⟩ := hq
  simp only at h1 h2 h3 g1 g2 g3
  simp only [mono, kadd]
  rw [Int.toNat_add h1 g1, Int.toNat_add h2 g2, Int.toNat_add h3 g3, Int.pow_add, Int.pow_add, Int.pow_add]
  grind
theorem cf_sh (i j k : Int) (p : Ky) (L : Pl) : M (fun q => ind i j k (kadd p q)) L = cf L (i - p.1) (j - p.2.1) (k - p.2.2) := M_congr fun e _ => ind_add i j k p e.1
theorem M_mul (c : Int) (μ : Ky → Int) : ∀ L : Pl, M (fun k => c * μ k) L = c * M μ L
  | [] => by simp [M]
  | e :: r => by
    simp only [M]
    rw [M_mul c μ r]
    grind
theorem vl_sh (x y z : Int) {p : Ky} {n m : Nat} (hp : inB n p) {L : Pl} (hL : Bx m L) : M (fun q => mono x y z (kadd p q)) L = mono x y z p * vl x y z L := by
  rw [M_congr (ν := fun q => mono x y z p * mono x y z q) fun e he => mono_add hp (hL e he), M_mul]
  rfl
theorem cf_mem {L : Pl} (h : Nk L) {e : Ky × Int} (he : e ∈ L) : cf L e.1.1 e.1.2.1 e.1.2.2 = e.2 := by
  unfold cf
  induction L with
  | nil => cases he
  | cons f r ih =>
    simp only [Nk, List.map_cons, List.nodup_cons] at h
    have zero : ∀ (k : Ky) (r : Pl), k ∉ r.map (·.1) → M (ind k.1 k.2.1 k.2.2) r = 0 := by
      intro k r hk
      induction r with
      | nil => rfl
      | cons g r ih =>
        simp only [List.map_cons, List.mem_cons, not_or] at hk
        simp only [M]
        rw [ih hk.2]
        have : ind k.1 k.2.1 k.2.2 g.1 = 0 := if_neg fun q => hk.1 q.symm
        rw [this]
        omega
    rcases List.mem_cons.mp he with rfl | he
    · simp only [M]
      rw [zero _ _ h.1]
      have : ind e.1.1 e.1.2.1 e.1.2.2 e.1 = 1 := if_pos rfl
      rw [this]
      omega
    · simp only [M]
      rw [ih h.2 he]
      have : ind e.1.1 e.1.2.1 e.1.2.2 f.1 = 0 := if_neg fun q => h.1 (by
        have q' : f.1 = e.1 := q
        rw [q']
        exact List.mem_map_of_mem he)
      rw [this]
      omega
theorem cf_not {L : Pl} {i j k : Int} (h : ∀ c, ((i, j, k), c) ∉ L) : cf L i j k = 0 := by
  unfold cf
  induction L with
  | nil => rfl
  | cons g r ih =>
    simp only [M]
    rw [ih fun c hc => h c (List.mem_cons_of_mem _ hc)]
    have : ind i j k g.1 = 0 := if_neg fun q => h g.2 (by
      rw [← q]
      exact List.mem_cons_self ..)
    rw [this]
    omega
/-- two with the same coefficients have the same members -/
theorem same_mem {L N : Pl} {n m : Nat} (h1 : Gd n L) (h2 : Gd m N) (h : cf L = cf N) : ∀ e, e ∈ L ↔ e ∈ N := by
  have half : ∀ {L N : Pl} {n m : Nat}, Gd n L → Gd m N → cf L = cf N → ∀ e, e ∈ L → e ∈ N := by
    intro L N n m h1 h2 h e he
    have c := cf_mem h1.nk he
    rw [h] at c
    by_cases q : ∃ c, ((e.1.1, e.1.2.1, e.1.2.2), c) ∈ N
    · obtain ⟨c', hc⟩ := q
      have c2 := cf_mem h2.nk hc
      simp only at c2
      rw [c] at c2
      rw [← c2] at hc
      exact hc
    · have z := cf_not (L := N) (fun c hc => q ⟨c, hc⟩)
      rw [z] at c
      exact absurd c.symm (h1.nz e he)
  exact fun e => ⟨half h1 h2 h e, half h2 h1 h.symm e⟩
/-! ### how many -/
theorem nodup_lt : ∀ (m : Nat) (l : List Nat), l.Nodup → (∀ x ∈ l, x < m) → l.length ≤ m
  | 0, l, _, h => by
    cases l with
    | nil => exact Nat.le_refl _
    | cons x r => exact absurd (h x (List.mem_cons_self ..)) (by omega)
  | m + 1, l, hn, h => by
    have := nodup_lt m (l.erase m) (hn.erase m) fun x hx => by
      have h1 := h x (List.mem_of_mem_erase hx)
      have h2 : x ≠ m := (hn.mem_erase_iff.mp hx).1
      omega
    rw [List.length_erase] at this
    split at this <;> omega
def code (n : Nat) (k : Ky) : Nat := k.1.toNat + (n + 1) * (k.2.1.toNat + (n + 1) * k.2.2.toNat)
theorem code_inj {n : Nat} {k q : Ky} (h1 : inB n k) (h2 : inB n q) (h : code n k = code n q) : k = q := by
  obtain ⟨a, b, c⟩ := k
  obtain ⟨d, e, f⟩ := q
  obtain ⟨⟨x1, x2⟩, ⟨x3, x4⟩, x5, x6⟩ := h1
  obtain ⟨⟨y1, y2⟩, ⟨y3, y4⟩, y5, y6⟩ := h2
  simp only [code] at *
  have d1 : ∀ (u v u' v' : Nat), u < n + 1 → u' < n + 1 → u + (n + 1) * v = u' + (n + 1) * v' → u = u' ∧ v = v' := by
    intro u v u' v' hu hu' he
    have m1 : (u + (n + 1) * v) % (n + 1) = u := by rw [Nat.add_mul_mod_self_left, Nat.mod_eq_of_lt hu]
    have m2 : (u' + (n + 1) * v') % (n + 1) = u' := by rw [Nat.add_mul_mod_self_left, Nat.mod_eq_of_lt hu']
    have e1 : u = u' := by rw [← m1, he, m2]
    subst e1
    refine ⟨rfl, ?_⟩
    have : (n + 1) * v = (n + 1) * v' := by omega
    exact Nat.eq_of_mul_eq_mul_left (by omega) this
  obtain ⟨e1, h'⟩ := d1 _ _ _ _ (by omega) (by omega) h
  obtain ⟨e2, e3⟩ := d1 _ _ _ _ (by omega) (by omega) h'
  simp only [Prod.mk.injEq]
  omega
theorem code_lt {n : Nat} {k : Ky} (h : inB n k) : code n k < (n + 1) * ((n + 1) * (n + 1)) := by
  obtain ⟨⟨x1, x2⟩, ⟨x3, x4⟩, x5, x6⟩ := h
  unfold code
  have h1 : k.1.toNat ≤ n := by omega
  have h2 : k.2.1.toNat ≤ n := by omega
  have h3 : k.2.2.toNat ≤ n := by omega
  have e1 : (n + 1) * k.2.2.toNat ≤ (n + 1) * n := Nat.mul_le_mul_left _ h3
  have e2 : k.2.1.toNat + (n + 1) * k.2.2.toNat ≤ n + (n + 1) * n := by omega
  have e3 : (n + 1) * (k.2.1.toNat + (n + 1) * k.2.2.toNat) ≤ (n + 1) * (n + (n + 1) * n) := Nat.mul_le_mul_left _ e2
  have e4 : (n + 1) * ((n + 1) * (n + 1)) = (n + 1) * (n + (n + 1) * n) + (n + 1) := by grind
  omega
theorem box_len {n : Nat} {L : Pl} (h1 : Nk L) (h2 : Bx n L) : L.length ≤ (n + 1) * ((n + 1) * (n + 1)) := by
  have := nodup_lt ((n + 1) * ((n + 1) * (n + 1))) (L.map fun e => code n e.1) (by
    rw [show (L.map fun e => code n e.1) = (L.map (·.1)).map (code n) from by rw [List.map_map]; rfl]
    have h1' : (L.map (·.1)).Pairwise (· ≠ ·) := h1
    show ((L.map (·.1)).map (code n)).Pairwise (· ≠ ·)
    rw [List.pairwise_map]
    refine List.Pairwise.imp_of_mem ?_ h1'
    intro a b ha hb hab q
    exact hab (code_inj (bx_iff.mp h2 a ha) (bx_iff.mp h2 b hb) q)) fun x hx => by
    obtain ⟨e, he, rfl⟩ := List.mem_map.mp hx
    exact code_lt (h2 e he)
  rwa [List.length_map] at this

set_option linter.all false
set_option maxHeartbeats 4000000
/-! the parts of a word, as lists -/
structure Q4 where
  o : Pl
  a : Pl
  b : Pl
  c : Pl
abbrev k0 : Ky := (0, 0, 0)
abbrev kX : Ky := (1, 0, 0)
abbrev kY : Ky := (0, 1, 0)
abbrev kZ : Ky := (0, 0, 1)
abbrev kXY : Ky := (1, 1, 0)
def firstT (p : Q4) : Q4 := ⟨summedT [(k0, -1, p.a), (kZ, 1, p.b), (kXY, -1, p.b), (kY, -1, p.c)], summedT [(k0, 1, p.o), (kX, 1, p.a), (kY, 1, p.b), (kZ, 1, p.c)], summedT [(kX, 1, p.b), (k0, 1, p.c)], summedT [(k0, -1, p.b)]⟩
def secondT (p : Q4) : Q4 := ⟨summedT [(k0, -1, p.b)], summedT [(k0, -1, p.c)], summedT [(k0, 1, p.o), (kY, 1, p.b)], summedT [(k0, 1, p.a), (kY, 1, p.c)]⟩
def aheadT (l : Int) (p : Q4) : Q4 := if l = 1 ∨ l = -1 then firstT p else secondT p
def subT (t : Ky) (p q : Q4) : Q4 := ⟨summedT [(t, 1, p.o), (k0, -1, q.o)], summedT [(t, 1, p.a), (k0, -1, q.a)], summedT [(t, 1, p.b), (k0, -1, q.b)], summedT [(t, 1, p.c), (k0, -1, q.c)]⟩
def letterT (l : Int) (p : Q4) : Q4 := if 0 < l then aheadT l p else subT (if l = -1 then kX else kY) p (aheadT l p)
def totT (p : Q4) : Pl := summedT [(k0, 2, p.o), (kX, 1, p.a), (kY, 1, p.b), (kZ, 1, p.c)]
def startT : Q4 := ⟨[(k0, 1)], [], [], []⟩
def runT (w : List Int) (p : Q4) : Q4 := w.foldl (fun p l => letterT l p) p
structure G4 (n : Nat) (p : Q4) : Prop where
  o : Gd n p.o
  a : Gd n p.a
  b : Gd n p.b
  c : Gd n p.c
def cf4 (p : Q4) : P4 := ⟨cf p.o, cf p.a, cf p.b, cf p.c⟩
def vl4 (x y z : Int) (p : Q4) : V4 := ⟨vl x y z p.o, vl x y z p.a, vl x y z p.b, vl x y z p.c⟩
def okS (k : Ky) : Prop := inB 1 k
theorem okP_of {n : Nat} {k : Ky} {m : Int} {L : Pl} (hk : inB 1 k) (h : Gd n L) : okP n (n + 1) (k, m, L) := by
  refine ⟨fun q hq => ?_, h.bx⟩
  obtain ⟨⟨h1, h2⟩, ⟨h3, h4⟩, h5, h6⟩ := hk
  obtain ⟨⟨g1, g2⟩, ⟨g3, g4⟩, g5, g6⟩ := hq
  simp only [inB, kadd] at *
  omega
theorem okP_mono {n n' : Nat} {p : Ky × Int × Pl} (h : okP n n' p) : okP n (n' + 1) p := by
  refine ⟨fun k hk => ?_, h.2⟩
  have := h.1 k hk
  simp only [inB] at *
  omega
theorem cf_summed {n n' : Nat} {ps : List (Ky × Int × Pl)} (h : ∀ p ∈ ps, okP n n' p) (i j k : Int) : cf (summedT ps) i j k = totM (ind i j k) ps := (summedT_all h).2 _
theorem totM_cf (i j k : Int) : ∀ (ps : List (Ky × Int × Pl)), totM (ind i j k) ps = (ps.map fun p => p.2.1 * cf p.2.2 (i - p.1.1) (j - p.1.2.1) (k - p.1.2.2)).sum
  | [] => rfl
  | p :: r => by
    simp only [totM, List.map_cons, List.sum_cons]
    rw [cf_sh, totM_cf i j k r]
theorem totM_vl (x y z : Int) {n : Nat} : ∀ (ps : List (Ky × Int × Pl)), (∀ p ∈ ps, inB 1 p.1 ∧ Bx n p.2.2) → totM (mono x y z) ps = (ps.map fun p => p.2.1 * (mono x y z p.1 * vl x y z p.2.2)).sum
  | [], _ => rfl
  | p :: r, h => by
    simp only [totM, List.map_cons, List.sum_cons]
    obtain ⟨h1, h2⟩ := h p (List.mem_cons_self ..)
    rw [vl_sh x y z h1 h2, totM_vl x y z r fun q hq => h q (List.mem_cons_of_mem _ hq)]
theorem sum_good {n : Nat} {ps : List (Ky × Int × Pl)} (h : ∀ p ∈ ps, inB 1 p.1 ∧ Gd n p.2.2) : Gd (n + 1) (summedT ps) ∧ (∀ i j k, cf (summedT ps) i j k = (ps.map fun p => p.2.1 * cf p.2.2 (i - p.1.1) (j - p.1.2.1) (k - p.1.2.2)).sum) ∧
    ∀ x y z, vl x y z (summedT ps) = (ps.map fun p => p.2.1 * (mono x y z p.1 * vl x y z p.2.2)).sum := by
  have ok : ∀ p ∈ ps, okP n (n + 1) p := fun p hp => okP_of (h p hp).1 (h p hp).2
  refine ⟨(summedT_all ok).1, fun i j k => ?_, fun x y z => ?_⟩
  · rw [cf_summed ok, totM_cf]
  · show M (mono x y z) _ = _
    rw [(summedT_all ok).2, totM_vl x y z ps fun p hp => ⟨(h p hp).1, (h p hp).2.bx⟩]
theorem mono_0 (x y z : Int) : mono x y z k0 = 1 := by simp [mono]
theorem mono_X (x y z : Int) : mono x y z kX = x := by
  simp [mono]
  grind
theorem mono_Y (x y z : Int) : mono x y z kY = y := by
  simp [mono]
  grind
theorem mono_Z (x y z : Int) : mono x y z kZ = z := by
  simp [mono]
  grind
theorem mono_XY (x y z : Int) : mono x y z kXY = x * y := by
  simp [mono]
  grind
theorem Gd.mono {n : Nat} {L : Pl} (h : Gd n L) : Gd (n + 1) L := ⟨h.nk, fun e he => by
  have := h.bx e he
  simp only [inB] at *
  omega, h.nz⟩
theorem V4.ext' {u v : V4} (h1 : u.o = v.o) (h2 : u.a = v.a) (h3 : u.b = v.b) (h4 : u.c = v.c) : u = v := by
  cases u; cases v; simp_all
abbrev AllOk (n : Nat) (ps : List (Ky × Int × Pl)) : Prop := ∀ p ∈ ps, inB 1 p.1 ∧ Gd n p.2.2
theorem okN {n : Nat} : AllOk n [] := fun _ z => nomatch z
theorem okC {n : Nat} {k : Ky} {m : Int} {L : Pl} {ps : List (Ky × Int × Pl)} (hk : inB 1 k) (h : Gd n L) (t : AllOk n ps) : AllOk n ((k, m, L) :: ps) := fun p hp => (List.mem_cons.mp hp).elim (fun e => by
  subst e
  exact ⟨hk, h⟩) (t p)
theorem i0 : inB 1 k0 := by decide
theorem iX : inB 1 kX := by decide
theorem iY : inB 1 kY := by decide
theorem iZ : inB 1 kZ := by decide
theorem iXY : inB 1 kXY := by decide
theorem first_all {n : Nat} {p : Q4} (G : G4 n p) : G4 (n + 1) (firstT p) ∧ cf4 (firstT p) = RA (cf4 p) ∧ ∀ x y z, vl4 x y z (firstT p) = VA x y z (vl4 x y z p) := by
  obtain ⟨o, a, b, c⟩ := p
  obtain ⟨ho, ha, hb, hc⟩ := G
  obtain ⟨a1, b1, c1⟩ := sum_good (n := n) (ps := [(k0, -1, a), (kZ, 1, b), (kXY, -1, b), (kY, -1, c)]) (okC i0 ha (okC iZ hb (okC iXY hb (okC iY hc okN))))
  obtain ⟨a2, b2, c2⟩ := sum_good (n := n) (ps := [(k0, 1, o), (kX, 1, a), (kY, 1, b), (kZ, 1, c)]) (okC i0 ho (okC iX ha (okC iY hb (okC iZ hc okN))))
  obtain ⟨a3, b3, c3⟩ := sum_good (n := n) (ps := [(kX, 1, b), (k0, 1, c)]) (okC iX hb (okC i0 hc okN))
  obtain ⟨a4, b4, c4⟩ := sum_good (n := n) (ps := [(k0, -1, b)]) (okC i0 hb okN)
  refine ⟨⟨a1, a2, a3, a4⟩, P4.ext' (fun i j k => ?_) (fun i j k => ?_) (fun i j k => ?_) (fun i j k => ?_), fun x y z => V4.ext' ?_ ?_ ?_ ?_⟩
  · refine (b1 i j k).trans ?_
    simp [RA, cf4]
    omega
  · refine (b2 i j k).trans ?_
    simp [RA, cf4]
    omega
  · refine (b3 i j k).trans ?_
    simp [RA, cf4]
  · refine (b4 i j k).trans ?_
    simp [RA, cf4]
  · refine (c1 x y z).trans ?_
    simp only [List.map_cons, List.map_nil, List.sum_cons, List.sum_nil, mono_0, mono_X, mono_Y, mono_Z, mono_XY, VA, vl4]
    grind
  · refine (c2 x y z).trans ?_
    simp only [List.map_cons, List.map_nil, List.sum_cons, List.sum_nil, mono_0, mono_X, mono_Y, mono_Z, mono_XY, VA, vl4]
    grind
  · refine (c3 x y z).trans ?_
    simp only [List.map_cons, List.map_nil, List.sum_cons, List.sum_nil, mono_0, mono_X, mono_Y, mono_Z, mono_XY, VA, vl4]
    grind
  · refine (c4 x y z).trans ?_
    simp only [List.map_cons, List.map_nil, List.sum_cons, List.sum_nil, mono_0, mono_X, mono_Y, mono_Z, mono_XY, VA, vl4]
    grind
theorem second_all {n : Nat} {p : Q4} (G : G4 n p) : G4 (n + 1) (secondT p) ∧ cf4 (secondT p) = RB (cf4 p) ∧ ∀ x y z, vl4 x y z (secondT p) = VB x y z (vl4 x y z p) := by
  obtain ⟨o, a, b, c⟩ := p
  obtain ⟨ho, ha, hb, hc⟩ := G
  obtain ⟨a1, b1, c1⟩ := sum_good (n := n) (ps := [(k0, -1, b)]) (okC i0 hb okN)
  obtain ⟨a2, b2, c2⟩ := sum_good (n := n) (ps := [(k0, -1, c)]) (okC i0 hc okN)
  obtain ⟨a3, b3, c3⟩ := sum_good (n := n) (ps := [(k0, 1, o), (kY, 1, b)]) (okC i0 ho (okC iY hb okN))
  obtain ⟨a4, b4, c4⟩ := sum_good (n := n) (ps := [(k0, 1, a), (kY, 1, c)]) (okC i0 ha (okC iY hc okN))
  refine ⟨⟨a1, a2, a3, a4⟩, P4.ext' (fun i j k => ?_) (fun i j k => ?_) (fun i j k => ?_) (fun i j k => ?_), fun x y z => V4.ext' ?_ ?_ ?_ ?_⟩
  · refine (b1 i j k).trans ?_
    simp [RB, cf4]
  · refine (b2 i j k).trans ?_
    simp [RB, cf4]
  · refine (b3 i j k).trans ?_
    simp [RB, cf4]
  · refine (b4 i j k).trans ?_
    simp [RB, cf4]
  · refine (c1 x y z).trans ?_
    simp only [List.map_cons, List.map_nil, List.sum_cons, List.sum_nil, mono_0, mono_X, mono_Y, mono_Z, mono_XY, VB, vl4]
    grind
  · refine (c2 x y z).trans ?_
    simp only [List.map_cons, List.map_nil, List.sum_cons, List.sum_nil, mono_0, mono_X, mono_Y, mono_Z, mono_XY, VB, vl4]
    grind
  · refine (c3 x y z).trans ?_
    simp only [List.map_cons, List.map_nil, List.sum_cons, List.sum_nil, mono_0, mono_X, mono_Y, mono_Z, mono_XY, VB, vl4]
    grind
  · refine (c4 x y z).trans ?_
    simp only [List.map_cons, List.map_nil, List.sum_cons, List.sum_nil, mono_0, mono_X, mono_Y, mono_Z, mono_XY, VB, vl4]
    grind
theorem sub_one {n : Nat} {t : Ky} (ht : inB 1 t) {L N : Pl} (h1 : Gd n L) (h2 : Gd n N) : Gd (n + 1) (summedT [(t, 1, L), (k0, -1, N)]) ∧ (∀ i j k, cf (summedT [(t, 1, L), (k0, -1, N)]) i j k = cf L (i - t.1) (j - t.2.1) (k - t.2.2) - cf N i j k) ∧
    ∀ x y z, vl x y z (summedT [(t, 1, L), (k0, -1, N)]) = mono x y z t * vl x y z L - vl x y z N := by
  obtain ⟨a, b, c⟩ := sum_good (n := n) (ps := [(t, 1, L), (k0, -1, N)]) (okC ht h1 (okC i0 h2 okN))
  refine ⟨a, fun i j k => (b i j k).trans ?_, fun x y z => (c x y z).trans ?_⟩
  · simp
    omega
  · simp only [List.map_cons, List.map_nil, List.sum_cons, List.sum_nil, mono_0]
    grind
theorem G4.mono {n : Nat} {p : Q4} (G : G4 n p) : G4 (n + 1) p := ⟨G.o.mono, G.a.mono, G.b.mono, G.c.mono⟩
theorem sub_all {n : Nat} {t : Ky} (ht : inB 1 t) {p q : Q4} (G : G4 n p) (Gq : G4 n q) : G4 (n + 1) (subT t p q) ∧ (∀ i j k, cf (subT t p q).o i j k = cf p.o (i - t.1) (j - t.2.1) (k - t.2.2) - cf q.o i j k) ∧ (∀ i j k, cf (subT t p q).a i j k = cf p.a (i - t.1) (j - t.2.1) (k - t.2.2) - cf q.a i j k) ∧
    (∀ i j k, cf (subT t p q).b i j k = cf p.b (i - t.1) (j - t.2.1) (k - t.2.2) - cf q.b i j k) ∧ (∀ i j k, cf (subT t p q).c i j k = cf p.c (i - t.1) (j - t.2.1) (k - t.2.2) - cf q.c i j k) ∧
    ∀ x y z, vl4 x y z (subT t p q) = vsub (mono x y z t) (vl4 x y z p) (vl4 x y z q) := by
  obtain ⟨a1, b1, c1⟩ := sub_one ht G.o Gq.o
  obtain ⟨a2, b2, c2⟩ := sub_one ht G.a Gq.a
  obtain ⟨a3, b3, c3⟩ := sub_one ht G.b Gq.b
  obtain ⟨a4, b4, c4⟩ := sub_one ht G.c Gq.c
  exact ⟨⟨a1, a2, a3, a4⟩, b1, b2, b3, b4, fun x y z => V4.ext' (c1 x y z) (c2 x y z) (c3 x y z) (c4 x y z)⟩
theorem letterT_1 (p : Q4) : letterT 1 p = firstT p := by simp [letterT, aheadT]
theorem letterT_2 (p : Q4) : letterT 2 p = secondT p := by simp [letterT, aheadT]
theorem letterT_n1 (p : Q4) : letterT (-1) p = subT kX p (firstT p) := by simp [letterT, aheadT]
theorem letterT_n2 (p : Q4) : letterT (-2) p = subT kY p (secondT p) := by simp [letterT, aheadT]
theorem letter_all {n : Nat} {p : Q4} (G : G4 n p) {l : Int} (hl : Lt l) : G4 (n + 2) (letterT l p) ∧ cf4 (letterT l p) = R l (cf4 p) ∧ ∀ x y z, vl4 x y z (letterT l p) = VR x y z l (vl4 x y z p) := by
  obtain ⟨f1, f2, f3⟩ := first_all G
  obtain ⟨s1, s2, s3⟩ := second_all G
  rcases hl with rfl | rfl | rfl | rfl
  · rw [letterT_1]
    refine ⟨f1.mono, f2.trans ?_, fun x y z => (f3 x y z).trans ?_⟩
    · simp [R]
    · simp [VR]
  · obtain ⟨a, b1, b2, b3, b4, c⟩ := sub_all (t := kX) (by decide) G.mono f1
    rw [letterT_n1]
    refine ⟨a, ?_, fun x y z => ?_⟩
    · have e : R (-1) (cf4 p) = subX (cf4 p) (RA (cf4 p)) := by simp [R]
      rw [e, ← f2]
      refine P4.ext' (fun i j k => (b1 i j k).trans ?_) (fun i j k => (b2 i j k).trans ?_) (fun i j k => (b3 i j k).trans ?_) (fun i j k => (b4 i j k).trans ?_) <;> simp [subX, cf4]
    · have e : VR x y z (-1) (vl4 x y z p) = vsub x (vl4 x y z p) (VA x y z (vl4 x y z p)) := by simp [VR]
      rw [e, c, f3, mono_X]
  · rw [letterT_2]
    refine ⟨s1.mono, s2.trans ?_, fun x y z => (s3 x y z).trans ?_⟩
    · simp [R]
    · simp [VR]
  · obtain ⟨a, b1, b2, b3, b4, c⟩ := sub_all (t := kY) (by decide) G.mono s1
    rw [letterT_n2]
    refine ⟨a, ?_, fun x y z => ?_⟩
    · have e : R (-2) (cf4 p) = subY (cf4 p) (RB (cf4 p)) := by simp [R]
      rw [e, ← s2]
      refine P4.ext' (fun i j k => (b1 i j k).trans ?_) (fun i j k => (b2 i j k).trans ?_) (fun i j k => (b3 i j k).trans ?_) (fun i j k => (b4 i j k).trans ?_) <;> simp [subY, cf4]
    · have e : VR x y z (-2) (vl4 x y z p) = vsub y (vl4 x y z p) (VB x y z (vl4 x y z p)) := by simp [VR]
      rw [e, c, s3, mono_Y]
theorem run_all : ∀ (w : List Int) {n : Nat} {p : Q4}, G4 n p → LtAll w → G4 (n + 2 * w.length) (runT w p) ∧ cf4 (runT w p) = run w (cf4 p) ∧ ∀ x y z, vl4 x y z (runT w p) = vrun x y z w (vl4 x y z p)
  | [], n, p, G, _ => ⟨G, rfl, fun _ _ _ => rfl⟩
  | l :: w, n, p, G, h => by
    obtain ⟨a, b, c⟩ := letter_all G (h l (List.mem_cons_self ..))
    obtain ⟨a2, b2, c2⟩ := run_all w a fun x hx => h x (List.mem_cons_of_mem _ hx)
    refine ⟨?_, ?_, fun x y z => ?_⟩
    · have e : n + 2 * (l :: w).length = n + 2 + 2 * w.length := by simp only [List.length_cons]; omega
      rw [e]
      exact a2
    · show cf4 (runT w (letterT l p)) = run w (R l (cf4 p))
      rw [b2, b]
    · show vl4 x y z (runT w (letterT l p)) = vrun x y z w (VR x y z l (vl4 x y z p))
      rw [c2, c]
theorem start_all : G4 0 startT ∧ cf4 startT = e1 ∧ ∀ x y z, vl4 x y z startT = ⟨1, 0, 0, 0⟩ := by
  have nil : Gd 0 [] := ⟨List.nodup_nil, fun _ z => (nomatch z), fun _ z => (nomatch z)⟩
  refine ⟨⟨⟨by simp [startT, Nk], ?_, ?_⟩, nil, nil, nil⟩, ?_, fun x y z => ?_⟩
  · intro e he
    obtain rfl := List.mem_singleton.mp he
    decide
  · intro e he
    obtain rfl := List.mem_singleton.mp he
    decide
  · apply P4.ext' <;> intro i j k <;> simp [cf4, startT, cf, M, ind, e1, dl]
    have : (0 = i ∧ 0 = j ∧ 0 = k) ↔ (i = 0 ∧ j = 0 ∧ k = 0) := by omega
    simp only [this]
  · apply V4.ext' <;> simp [vl4, startT, vl, M, mono]
theorem tot_all {n : Nat} {p : Q4} (G : G4 n p) : Gd (n + 1) (totT p) ∧ cf (totT p) = tau (cf4 p) ∧ ∀ x y z, vl x y z (totT p) = vtau x y z (vl4 x y z p) := by
  obtain ⟨o, a, b, c⟩ := p
  obtain ⟨ho, ha, hb, hc⟩ := G
  obtain ⟨a1, b1, c1⟩ := sum_good (n := n) (ps := [(k0, 2, o), (kX, 1, a), (kY, 1, b), (kZ, 1, c)]) (okC i0 ho (okC iX ha (okC iY hb (okC iZ hc okN))))
  refine ⟨a1, ?_, fun x y z => (c1 x y z).trans ?_⟩
  · funext i j k
    refine (b1 i j k).trans ?_
    simp [tau, cf4]
    omega
  · simp only [List.map_cons, List.map_nil, List.sum_cons, List.sum_nil, mono_0, mono_X, mono_Y, mono_Z, mono_XY, vtau, vl4]
    grind
/-- the trace of a word -/
def traceT (w : List Int) : Pl := totT (runT (red [] w) startT)
theorem trace_all {w : List Int} (h : LtAll w) (hl : w.length ≤ 12) : Gd 25 (traceT w) ∧ cf (traceT w) = T w ∧ ∀ A B : Mt, A.det = 1 → B.det = 1 → vl A.tr B.tr (A.mul B).tr (traceT w) = (along A B w Mt.one).tr := by
  have hr := (run_red w [] h (fun _ z => nomatch z)).2
  have hn : (red [] w).length ≤ 12 := Nat.le_trans (red_sub w []) (by simpa using hl)
  obtain ⟨s1, s2, s3⟩ := start_all
  obtain ⟨a, b, c⟩ := run_all (red [] w) s1 hr
  obtain ⟨a2, b2, c2⟩ := tot_all a
  refine ⟨?_, ?_, fun A B hA hB => ?_⟩
  · have up : ∀ (m k : Nat) (L : Pl), Gd m L → Gd (m + k) L := by
      intro m k L g
      induction k with
      | zero => exact g
      | succ k ih => exact ih.mono
    have := up _ (24 - 2 * (red [] w).length) _ a2
    have e : 0 + 2 * (red [] w).length + 1 + (24 - 2 * (red [] w).length) = 25 := by omega
    rw [e] at this
    exact this
  · unfold traceT
    rw [b2, b, s2]
    exact T_red w h
  · unfold traceT
    rw [c2, c, s3]
    exact value_along A B hA hB w h
/-! ### the coefficients are small -/
abbrev lies (n x : Int) : Prop := -n ≤ x ∧ x ≤ n
def Bd (n : Int) (p : P4) : Prop := ∀ i j k, (lies n (p.o i j k) ∧ lies n (p.a i j k)) ∧ lies n (p.b i j k) ∧ lies n (p.c i j k)
theorem Bd_R {n : Int} {p : P4} (h0 : 0 ≤ n) (h : Bd n p) (l : Int) : Bd (5 * n) (R l p) := by
  intro i j k
  obtain ⟨⟨a1, a2⟩, a3, a4⟩ := h i j k
  obtain ⟨⟨b1, b2⟩, b3, b4⟩ := h i j (k - 1)
  obtain ⟨⟨c1, c2⟩, c3, c4⟩ := h (i - 1) (j - 1) k
  obtain ⟨⟨d1, d2⟩, d3, d4⟩ := h i (j - 1) k
  obtain ⟨⟨f1, f2⟩, f3, f4⟩ := h (i - 1) j k
  unfold R
  split
  · refine ⟨⟨?_, ?_⟩, ?_, ?_⟩ <;> simp only [RA, lies] at * <;> omega
  split
  · refine ⟨⟨?_, ?_⟩, ?_, ?_⟩ <;> simp only [RB, lies] at * <;> omega
  split
  · refine ⟨⟨?_, ?_⟩, ?_, ?_⟩ <;> simp only [subX, RA, lies] at * <;> omega
  · refine ⟨⟨?_, ?_⟩, ?_, ?_⟩ <;> simp only [subY, RB, lies] at * <;> omega
theorem Bd_run : ∀ (w : List Int) {n : Int} {p : P4}, 0 ≤ n → Bd n p → Bd (5 ^ w.length * n) (run w p)
  | [], n, p, _, h => by simpa [run] using h
  | l :: w, n, p, h0, h => by
    have := Bd_run w (by omega) (Bd_R h0 h l)
    have e : (5 : Int) ^ w.length * (5 * n) = 5 ^ (l :: w).length * n := by
      rw [List.length_cons, Int.pow_succ]
      grind
    rw [e] at this
    exact this
theorem T_small {w : List Int} (hl : w.length ≤ 12) (i j k : Int) : lies (5 ^ 13) (T w i j k) := by
  have h1 : Bd 1 e1 := by
    intro i j k
    refine ⟨⟨?_, ?_⟩, ?_, ?_⟩ <;> simp only [e1, dl, lies]
    · split <;> omega
    · omega
    · omega
    · omega
  have h2 := Bd_run w (by omega) h1
  have h3 : (5 : Int) ^ w.length ≤ 5 ^ 12 := by
    have := Nat.pow_le_pow_right (n := 5) (by omega) hl
    have := Int.ofNat_le.mpr this
    simpa using this
  obtain ⟨⟨a1, _⟩, _, _⟩ := h2 i j k
  obtain ⟨⟨_, b1⟩, _, _⟩ := h2 (i - 1) j k
  obtain ⟨_, c1, _⟩ := h2 i (j - 1) k
  obtain ⟨_, _, d1⟩ := h2 i j (k - 1)
  have e : (5 : Int) ^ 13 = 5 * 5 ^ 12 := by decide
  simp only [T, tau, lies] at *
  rw [e]
  generalize (5 : Int) ^ 12 = m at *
  omega

set_option linter.all false
set_option maxHeartbeats 4000000
/-! sorted lists of powers and numbers -/
def klt (k q : Ky) : Bool := decide (k.1 < q.1) || (decide (k.1 = q.1) && (decide (k.2.1 < q.2.1) || (decide (k.2.1 = q.2.1) && decide (k.2.2 < q.2.2))))
def elt (e f : Ky × Int) : Bool := klt e.1 f.1 || (decide (e.1 = f.1) && decide (e.2 < f.2))
def ele (e f : Ky × Int) : Bool := !elt f e
theorem klt_iff {k q : Ky} : klt k q = true ↔ (k.1 < q.1 ∨ (k.1 = q.1 ∧ (k.2.1 < q.2.1 ∨ (k.2.1 = q.2.1 ∧ k.2.2 < q.2.2)))) := by
  simp [klt]
theorem ky_eq {k q : Ky} : k = q ↔ (k.1 = q.1 ∧ k.2.1 = q.2.1 ∧ k.2.2 = q.2.2) := by
  obtain ⟨a, b, c⟩ := k
  obtain ⟨d, e, f⟩ := q
  simp
theorem elt_iff {e f : Ky × Int} : elt e f = true ↔ (klt e.1 f.1 = true ∨ (e.1 = f.1 ∧ e.2 < f.2)) := by
  simp [elt]
theorem ele_iff {e f : Ky × Int} : ele e f = true ↔ ¬ (klt f.1 e.1 = true ∨ (f.1 = e.1 ∧ f.2 < e.2)) := by
  unfold ele
  rw [← elt_iff]
  simp
theorem ele_trans (a b c : Ky × Int) (h1 : ele a b = true) (h2 : ele b c = true) : ele a c = true := by
  rw [ele_iff, klt_iff, ky_eq] at *
  omega
theorem ele_total (a b : Ky × Int) : (ele a b || ele b a) = true := by
  rw [Bool.or_eq_true, ele_iff, ele_iff, klt_iff, klt_iff, ky_eq, ky_eq]
  omega
def sortT (L : Pl) : Pl := L.mergeSort ele
theorem sort_mem {L : Pl} {e : Ky × Int} : e ∈ sortT L ↔ e ∈ L := (List.mergeSort_perm L ele).mem_iff
theorem sort_asc {L : Pl} (h : Nk L) : (sortT L).Pairwise fun e f => klt e.1 f.1 = true := by
  have h1 : (sortT L).Pairwise fun e f => ele e f = true := List.pairwise_mergeSort ele_trans ele_total L
  have h2 : ((sortT L).map (·.1)).Nodup := ((List.mergeSort_perm L ele).map (·.1)).nodup_iff.mpr h
  have h3 : (sortT L).Pairwise fun e f => e.1 ≠ f.1 := List.pairwise_map.mp h2
  refine (h1.and h3).imp fun {a b} q => ?_
  obtain ⟨q1, q2⟩ := q
  rw [ele_iff, klt_iff] at q1
  rw [Ne, ky_eq] at q2
  rw [klt_iff]
  omega
theorem klt_trans {a b c : Ky} (h1 : klt a b = true) (h2 : klt b c = true) : klt a c = true := by
  rw [klt_iff] at *
  omega
theorem klt_irr {a : Ky} : ¬ klt a a = true := by
  rw [klt_iff]
  omega
abbrev Asc (L : Pl) : Prop := L.Pairwise fun e f => klt e.1 f.1 = true
theorem asc_eq : ∀ {L N : Pl}, Asc L → Asc N → (∀ e, e ∈ L ↔ e ∈ N) → L = N
  | [], [], _, _, _ => rfl
  | [], f :: _, _, _, h => nomatch (h f).mpr (List.mem_cons_self ..)
  | e :: _, [], _, _, h => nomatch (h e).mp (List.mem_cons_self ..)
  | e :: r, f :: t, h1, h2, h => by
    obtain ⟨a1, a2⟩ := List.pairwise_cons.mp h1
    obtain ⟨b1, b2⟩ := List.pairwise_cons.mp h2
    have ef : e = f := by
      rcases List.mem_cons.mp ((h e).mp (List.mem_cons_self ..)) with q | q
      · exact q
      · rcases List.mem_cons.mp ((h f).mpr (List.mem_cons_self ..)) with z | z
        · exact z.symm
        · exact absurd (klt_trans (a1 f z) (b1 e q)) klt_irr
    subst ef
    rw [asc_eq a2 b2 fun x => ?_]
    constructor
    · intro hx
      rcases List.mem_cons.mp ((h x).mp (List.mem_cons_of_mem _ hx)) with q | q
      · subst q
        exact absurd (a1 x hx) klt_irr
      · exact q
    · intro hx
      rcases List.mem_cons.mp ((h x).mpr (List.mem_cons_of_mem _ hx)) with q | q
      · subst q
        exact absurd (b1 x hx) klt_irr
      · exact q
theorem sort_eq {L N : Pl} {n m : Nat} (h1 : Gd n L) (h2 : Gd m N) (h : cf L = cf N) : sortT L = sortT N :=
  asc_eq (sort_asc h1.nk) (sort_asc h2.nk) fun e => by rw [sort_mem, sort_mem, same_mem h1 h2 h]
theorem M_perm {μ : Ky → Int} {L N : Pl} (h : L.Perm N) : M μ L = M μ N := by
  induction h with
  | nil => rfl
  | cons x _ ih => simp only [M]; rw [ih]
  | swap x y l => simp only [M]; omega
  | trans _ _ ih1 ih2 => rw [ih1, ih2]
/-- what the polynomial of a word is -/
structure PolyOk (w : List Int) (L : Pl) : Prop where
  asc : Asc L
  bx : Bx 25 L
  nz : ∀ e ∈ L, e.2 ≠ 0
  sm : ∀ e ∈ L, lies (5 ^ 13) e.2
  val : ∀ A B : Mt, A.det = 1 → B.det = 1 → vl A.tr B.tr (A.mul B).tr L = (along A B w Mt.one).tr
  len : L.length ≤ 26 * (26 * 26)
def polyT (w : List Int) : Pl := sortT (traceT w)
theorem poly_ok {w : List Int} (h : LtAll w) (hl : w.length ≤ 12) : PolyOk w (polyT w) := by
  obtain ⟨g, c, v⟩ := trace_all h hl
  refine ⟨sort_asc g.nk, fun e he => g.bx e (sort_mem.mp he), fun e he => g.nz e (sort_mem.mp he), fun e he => ?_, fun A B hA hB => ?_, ?_⟩
  · have := cf_mem g.nk (sort_mem.mp he)
    rw [c] at this
    rw [← this]
    exact T_small hl _ _ _
  · rw [← v A B hA hB]
    exact M_perm (List.mergeSort_perm _ _)
  · unfold polyT sortT
    rw [List.length_mergeSort]
    exact box_len g.nk g.bx
theorem poly_eq {w u : List Int} (h : LtAll w) (hl : w.length ≤ 12) (hu : LtAll u) (hul : u.length ≤ 12) (e : T w = T u) : polyT w = polyT u := by
  obtain ⟨g1, c1, _⟩ := trace_all h hl
  obtain ⟨g2, c2, _⟩ := trace_all hu hul
  exact sort_eq g1 g2 (by rw [c1, c2, e])

set_option linter.all false
set_option maxRecDepth 100000
set_option maxHeartbeats 1000000
open DV PySem L2
open PyProof.Rows hiding St
abbrev sm (x : Int) : Prop := x.natAbs < 2 ^ 64
theorem mulI_r {a b : Int} (h : sm b) : mulI (.int a) (.int b) = some (.int (a * b)) := by
  simp only [mulI, ii]
  rw [if_pos]
  unfold mulOk
  simp [show b.natAbs < 2 ^ 64 from h]
theorem mulI_l {a b : Int} (h : sm a) : mulI (.int a) (.int b) = some (.int (a * b)) := by
  simp only [mulI, ii]
  rw [if_pos]
  unfold mulOk
  simp [show a.natAbs < 2 ^ 64 from h]
/-! ### readings of the plain text -/
abbrev WE : Str → PyData → DV.Env → Prop := fun _ _ _ => False
theorem w_ok {α : Type} (a : α) (e : DV.Env) (Q : α → DV.Env → Prop) : (Rs.ok a e).wp Q WE = Q a e := rfl
theorem w_bind {α β : Type} (m : Rs α) (k : α → DV.Env → Rs β) (Q : β → DV.Env → Prop) : (m.bind k).wp Q WE = m.wp (fun a e => (k a e).wp Q WE) WE := by cases m <;> rfl
theorem w_ite {α : Type} {c : Prop} [Decidable c] (m n : Rs α) (Q : α → DV.Env → Prop) : (if c then m else n).wp Q WE ↔ ((c → m.wp Q WE) ∧ (¬ c → n.wp Q WE)) := by
  split <;> simp_all
theorem w_some {α : Type} (a : α) (e : DV.Env) : Rs.of (some a) e = .ok a e := rfl
theorem w_nx {α : Type} (m : Rs α) (Q : α → DV.Env → Prop) : m.nx.wp Q WE = m.wp Q WE := by cases m <;> rfl
theorem w_mono {α : Type} {m : Rs α} {Q Q' : α → DV.Env → Prop} (h : m.wp Q WE) (k : ∀ a e, Q a e → Q' a e) : m.wp Q' WE := by
  cases m with
  | ok a e => exact k _ _ h
  | exc _ _ _ => exact h
  | bad => exact h
theorem w_get {α : Type} {m : Rs α} {Q : α → DV.Env → Prop} (h : m.wp Q WE) : ∃ a e, m = .ok a e ∧ Q a e := by
  cases m with
  | ok a e => exact ⟨a, e, rfl, h⟩
  | exc _ _ _ => exact h.elim
  | bad => exact h.elim
/-- a def's own call -/
theorem w_call {f : List PyData → Rs PyData} {dfl : List PyData} {fa : DV.Env → Rs (List PyData)} {env : DV.Env} {Q : PyData → DV.Env → Prop} (h : (fa env).wp (fun ds e => (f (ds ++ dfl)).wp (fun d _ => Q d e) WE) WE) : (callE f dfl fa env).wp Q WE := by
  unfold callE
  rw [w_bind]
  refine w_mono h fun ds e h => ?_
  obtain ⟨a, e', h1, h2⟩ := w_get h
  rw [h1]
  exact h2
theorem w_callM {p i : Nat} {f : List PyData → Rs PyData} {dfl : List PyData} {fa : DV.Env → Rs (List PyData)} {env : DV.Env} {Q : PyData → DV.Env → Prop} (h : (fa env).wp (fun ds e => (f (ds ++ dfl)).wp (fun d e' => Q d (e.set i (e'.getD p none))) WE) WE) : (callM p i f dfl fa env).wp Q WE := by
  unfold callM
  rw [w_bind]
  refine w_mono h fun ds e h => ?_
  obtain ⟨a, e', h1, h2⟩ := w_get h
  rw [h1]
  exact h2
/-- a loop, by what is true ahead of each turn -/
theorem w_loop {tg : PyData → DV.Env → Option DV.Env} {fb : DV.Env → Rs Fl} {Q : Fl → DV.Env → Prop} (I : List PyData → DV.Env → Prop) (h0 : ∀ e, I [] e → Q .nx e)
    (h1 : ∀ d ds e, I (d :: ds) e → ∃ e1, tg d e = some e1 ∧ (fb e1).wp (fun fl e2 => match fl with
      | .nx => I ds e2
      | .ct => I ds e2
      | .bk => Q .nx e2
      | .rt r => Q (.rt r) e2) WE) : ∀ (ds : List PyData) (e : DV.Env), I ds e → (loopS tg fb ds e).wp Q WE
  | [], e, h => h0 e h
  | d :: ds, e, h => by
    obtain ⟨e1, he, hw⟩ := h1 d ds e h
    unfold loopS
    rw [he]
    simp only
    rw [w_bind]
    refine w_mono hw fun fl e2 h2 => ?_
    cases fl with
    | nx => exact w_loop I h0 h1 ds e2 h2
    | ct => exact w_loop I h0 h1 ds e2 h2
    | bk => exact h2
    | rt r => exact h2
/-- behind a statement: go on, or out -/
def nxC (k : DV.Env → Prop) (Q : Fl → DV.Env → Prop) : Fl → DV.Env → Prop
  | .nx, e => k e
  | o, e => Q o e
section
variable {Q : PyData → DV.Env → Prop} {QF : Fl → DV.Env → Prop} {QB : Bool → DV.Env → Prop} {QL : List PyData → DV.Env → Prop} {QO : Option Int → DV.Env → Prop} {env : DV.Env} {f f1 f2 f3 : DV.Env → Rs PyData} {s t : DV.Env → Rs Fl} {fa fb : DV.Env → Rs (List PyData)} {c c2 : DV.Env → Rs Bool} {fo fo2 : DV.Env → Rs (Option Int)}
theorem nxC_nx {k : DV.Env → Prop} (h : k env) : nxC k QF .nx env := h
theorem nxC_rt {k : DV.Env → Prop} {d : PyData} (h : QF (.rt d) env) : nxC k QF (.rt d) env := h
theorem w_seq (h : (s env).wp (nxC (fun e => (t e).wp QF WE) QF) WE) : (seqS s t env).wp QF WE := by
  unfold seqS
  rw [w_bind]
  refine w_mono h fun fl e q => ?_
  cases fl <;> exact q
theorem w_asg {i : Nat} (h : (f env).wp (fun d e => ∃ e', putS e i d = some e' ∧ QF .nx e') WE) : (asgS i f env).wp QF WE := by
  unfold asgS
  rw [w_bind]
  refine w_mono h fun d e ⟨e', h1, h2⟩ => ?_
  rw [h1]
  exact h2
theorem w_put {d : PyData} {i : Nat} {e e' : DV.Env} {R : DV.Env → Prop} (h : putS e i d = some e') (r : R e') : ∃ e', putS e i d = some e' ∧ R e' := ⟨e', h, r⟩
theorem w_asgG {g : PyData → DV.Env → Option DV.Env} (h : (f env).wp (fun d e => ∃ e', g d e = some e' ∧ QF .nx e') WE) : (asgG g f env).wp QF WE := by
  unfold asgG
  rw [w_bind]
  refine w_mono h fun d e ⟨e', h1, h2⟩ => ?_
  rw [h1]
  exact h2
theorem w_ret (h : (f env).wp (fun d e => QF (.rt d) e) WE) : (retS f env).wp QF WE := by
  unfold retS
  rw [w_bind]
  exact h
theorem w_drop (h : (f env).wp (fun _ e => QF .nx e) WE) : (dropS f env).wp QF WE := by
  unfold dropS
  rw [w_bind]
  exact h
theorem w_if (h : (c env).wp (fun b e => (b = true → (s e).wp QF WE) ∧ (b = false → (t e).wp QF WE)) WE) : (ifS c s t env).wp QF WE := by
  unfold ifS
  rw [w_bind]
  refine w_mono h fun b e q => ?_
  cases b
  · exact q.2 rfl
  · exact q.1 rfl
theorem w_nil (h : QF .nx env) : (nilS env).wp QF WE := h
theorem w_setS {i : Nat} {fk fv : DV.Env → Rs PyData} (h : (fv env).wp (fun v e1 => (fk e1).wp (fun k e2 => ∃ d d', e2[i]? = some (some d) ∧ setD d k v = some d' ∧ QF .nx (e2.set i (some d'))) WE) WE) : (setS i fk fv env).wp QF WE := by
  unfold setS
  rw [w_bind]
  refine w_mono h fun v e1 h => ?_
  rw [w_bind]
  refine w_mono h fun k e2 ⟨d, d', h1, h2, h3⟩ => ?_
  rw [h1]
  simp only
  rw [h2]
  exact h3
theorem w_setD {d k v d' : PyData} {i : Nat} {e : DV.Env} {R : PyData → Prop} (h1 : e[i]? = some (some d)) (h2 : setD d k v = some d') (h3 : R d') : ∃ d d', e[i]? = some (some d) ∧ setD d k v = some d' ∧ R d' := ⟨d, d', h1, h2, h3⟩
theorem w_var {i : Nat} {d : PyData} (h : env[i]? = some (some d)) (q : Q d env) : (varE i env).wp Q WE := by
  unfold varE
  rw [h]
  exact q
theorem w_cst {d : PyData} (q : Q d env) : (cstE d env).wp Q WE := q
theorem w_un {g : PyData → Option PyData} (h : (f env).wp (fun d e => ∃ r, g d = some r ∧ Q r e) WE) : (un1 g f env).wp Q WE := by
  unfold un1
  rw [w_bind]
  refine w_mono h fun d e ⟨r, h1, h2⟩ => ?_
  rw [h1]
  exact h2
theorem w_bin {g : PyData → PyData → Option PyData} (h : (f1 env).wp (fun d e => (f2 e).wp (fun d2 e2 => ∃ r, g d d2 = some r ∧ Q r e2) WE) WE) : (bin2 g f1 f2 env).wp Q WE := by
  unfold bin2
  rw [w_bind]
  refine w_mono h fun d e h => ?_
  rw [w_bind]
  refine w_mono h fun d2 e2 ⟨r, h1, h2⟩ => ?_
  rw [h1]
  exact h2
theorem w_nary {g : List PyData → Option PyData} (h : (fa env).wp (fun ds e => ∃ r, g ds = some r ∧ Q r e) WE) : (nary g fa env).wp Q WE := by
  unfold nary
  rw [w_bind]
  refine w_mono h fun d e ⟨r, h1, h2⟩ => ?_
  rw [h1]
  exact h2
theorem w_op {o : Option PyData} {r : PyData} {R : PyData → Prop} (h : o = some r) (q : R r) : ∃ r, o = some r ∧ R r := ⟨r, h, q⟩
theorem w_nilA (h : QL [] env) : (nilA env).wp QL WE := h
theorem w_cons (h : (f env).wp (fun d e => (fa e).wp (fun ds e2 => QL (d :: ds) e2) WE) WE) : (consA f fa env).wp QL WE := by
  unfold consA
  rw [w_bind]
  refine w_mono h fun d e h => ?_
  rw [w_bind]
  exact h
theorem w_tup (h : (fa env).wp (fun ds e => ds.length ≤ lim ∧ Q (.tuple ds) e) WE) : (tupE fa env).wp Q WE := by
  unfold tupE
  rw [w_bind]
  refine w_mono h fun ds e q => ?_
  rw [if_pos q.1]
  exact q.2
theorem w_lst (h : (fa env).wp (fun ds e => ds.length ≤ lim ∧ Q (.list ds) e) WE) : (lstE fa env).wp Q WE := by
  unfold lstE
  rw [w_bind]
  refine w_mono h fun ds e q => ?_
  rw [if_pos q.1]
  exact q.2
theorem w_lim {n : Nat} {R : Prop} (h : decide (n ≤ lim) = true) (r : R) : n ≤ lim ∧ R := ⟨of_decide_eq_true h, r⟩
theorem w_asB (h : (f env).wp (fun d e => ∃ b, boolOf d = some b ∧ QB b e) WE) : (asB f env).wp QB WE := by
  unfold asB
  rw [w_bind]
  refine w_mono h fun d e ⟨b, h1, h2⟩ => ?_
  rw [h1]
  exact h2
theorem w_bool {b : Bool} {R : Bool → Prop} (h : R b) : ∃ b', boolOf (.bool b) = some b' ∧ R b' := ⟨b, rfl, h⟩
theorem w_notB (h : (c env).wp (fun b e => QB (!b) e) WE) : (notB c env).wp QB WE := by
  unfold notB
  rw [w_bind]
  exact h
theorem w_orB (h : (c env).wp (fun b e => (b = true → QB true e) ∧ (b = false → (c2 e).wp QB WE)) WE) : (orB c c2 env).wp QB WE := by
  unfold orB
  rw [w_bind]
  refine w_mono h fun b e q => ?_
  cases b
  · exact q.2 rfl
  · exact q.1 rfl
theorem w_andB (h : (c env).wp (fun b e => (b = true → (c2 e).wp QB WE) ∧ (b = false → QB false e)) WE) : (andB c c2 env).wp QB WE := by
  unfold andB
  rw [w_bind]
  refine w_mono h fun b e q => ?_
  cases b
  · exact q.2 rfl
  · exact q.1 rfl
theorem w_yes (h : QB true env) : (yesB env).wp QB WE := h
theorem w_truB (h : (f env).wp (fun d e => ∃ b, truD d = some b ∧ QB b e) WE) : (truB f env).wp QB WE := by
  unfold truB
  rw [w_bind]
  refine w_mono h fun d e ⟨b, h1, h2⟩ => ?_
  rw [h1]
  exact h2
theorem w_ifE (h : (c env).wp (fun b e => (b = true → (f1 e).wp Q WE) ∧ (b = false → (f2 e).wp Q WE)) WE) : (ifE c f1 f2 env).wp Q WE := by
  unfold ifE
  rw [w_bind]
  refine w_mono h fun b e q => ?_
  cases b
  · exact q.2 rfl
  · exact q.1 rfl
theorem w_andV (h : (f1 env).wp (fun d e => ∃ b, boolOf d = some b ∧ ((b = true → (f2 e).wp Q WE) ∧ (b = false → Q (.bool false) e))) WE) : (andV f1 f2 env).wp Q WE := by
  unfold andV
  rw [w_bind]
  refine w_mono h fun d e ⟨b, h1, h2⟩ => ?_
  rw [h1]
  cases b
  · exact h2.2 rfl
  · exact h2.1 rfl
theorem w_notV (h : (f1 env).wp (fun d e => ∃ b, boolOf d = some b ∧ Q (.bool (!b)) e) WE) : (notV f1 env).wp Q WE := by
  unfold notV
  rw [w_bind]
  refine w_mono h fun d e ⟨b, h1, h2⟩ => ?_
  rw [h1]
  exact h2
theorem w_for {fi : DV.Env → Rs (List PyData)} {tg : PyData → DV.Env → Option DV.Env} (h : (fi env).wp (fun ds e => (loopS tg s ds e).wp QF WE) WE) : (forS fi tg s env).wp QF WE := by
  unfold forS
  rw [w_bind]
  exact h
theorem w_items (h : (f env).wp (fun d e => ∃ ds, seqOf d = some ds ∧ QL ds e) WE) : (itemsE f env).wp QL WE := by
  unfold itemsE
  rw [w_bind]
  refine w_mono h fun d e ⟨b, h1, h2⟩ => ?_
  rw [h1]
  exact h2
theorem w_seqOf {d : PyData} {ds : List PyData} {R : List PyData → Prop} (h : seqOf d = some ds) (r : R ds) : ∃ ds, seqOf d = some ds ∧ R ds := ⟨ds, h, r⟩
theorem w_rng1 (h : (f env).wp (fun d e => ∃ j : Int, d = .int j ∧ (-(2 ^ 62) ≤ j ∧ j < 2 ^ 62) ∧ QL (rangeL 0 j) e) WE) : (rng1 f env).wp QL WE := by
  unfold rng1
  rw [w_bind]
  refine w_mono h fun d e ⟨j, h1, h2, h3⟩ => ?_
  subst h1
  simp only
  rw [if_pos h2]
  exact h3
theorem w_zip (h : (fa env).wp (fun ds e => ∃ xs, zipD ds = some xs ∧ QL xs e) WE) : (zipE fa env).wp QL WE := by
  unfold zipE
  rw [w_bind]
  refine w_mono h fun d e ⟨b, h1, h2⟩ => ?_
  rw [h1]
  exact h2
theorem w_comp {own : List Nat} {fi : DV.Env → Rs (List PyData)} {g : PyData → DV.Env → Option DV.Env} (h : (fi env).wp (fun ds e => ds.length ≤ lim ∧ (compL own g c f ds e).wp (fun r e1 => Q (.list r) (wipeE e1 own)) WE) WE) : (compE own fi g c f env).wp Q WE := by
  unfold compE
  rw [w_bind]
  refine w_mono h fun ds e q => ?_
  rw [if_pos q.1, w_bind]
  exact q.2
theorem w_call1 {g : List PyData → Rs PyData} {dfl : List PyData} (h : (fa env).wp (fun ds e => (g (ds ++ dfl)).wp (fun d _ => Q d e) WE) WE) : (callE g dfl fa env).wp Q WE := w_call h
theorem w_callK {π : List Nat} {g : List PyData → Rs PyData} (h : (fa env).wp (fun ds e1 => (fb e1).wp (fun zs e => (g (permG π (ds ++ zs))).wp (fun d _ => Q d e) WE) WE) WE) : (callKE π g fa fb env).wp Q WE := by
  unfold callKE
  rw [w_bind]
  refine w_mono h fun ds e h => ?_
  rw [w_bind]
  refine w_mono h fun zs e h => ?_
  obtain ⟨a, e', h1, h2⟩ := w_get h
  rw [h1]
  exact h2
theorem w_slice (h : (f env).wp (fun d e => (fo e).wp (fun lo e1 => (fo2 e1).wp (fun hi e2 => ∃ r, slD d lo hi = some r ∧ Q r e2) WE) WE) WE) : (sliceE f fo fo2 env).wp Q WE := by
  unfold sliceE
  rw [w_bind]
  refine w_mono h fun d e h => ?_
  rw [w_bind]
  refine w_mono h fun lo e h => ?_
  rw [w_bind]
  refine w_mono h fun hi e ⟨r, h1, h2⟩ => ?_
  rw [h1]
  exact h2
theorem w_noO (h : QO none env) : (noO env).wp QO WE := h
theorem w_someO (h : (f env).wp (fun d e => ∃ i : Int, d = .int i ∧ QO (some i) e) WE) : (someO f env).wp QO WE := by
  unfold someO
  rw [w_bind]
  refine w_mono h fun d e ⟨i, h1, h2⟩ => ?_
  subst h1
  exact h2
theorem w_run {N : Nat} {nn : Bool} {ds : List PyData} (h : (s (ds.map some ++ List.replicate (N - ds.length) none)).wp (fun fl e => match fl with
    | .nx => nn = true ∧ Q .none e
    | .rt d => Q d e
    | _ => False) WE) : (runF N nn s ds).wp Q WE := by
  unfold runF
  rw [w_bind]
  refine w_mono h fun fl e q => ?_
  cases fl with
  | nx =>
    obtain ⟨rfl, q⟩ := q
    exact q
  | rt d => exact q
  | bk => exact q
  | ct => exact q
theorem w_chain {g g' : PyData → PyData → Option PyData} (h : (f1 env).wp (fun x e1 => (f2 e1).wp (fun y e2 => ∃ b : Bool, g x y = some (.bool b) ∧ ((b = true → (f3 e2).wp (fun z e4 => ∃ r, g' y z = some r ∧ Q r e4) WE) ∧ (b = false → Q (.bool false) e2))) WE) WE) : (chainE g g' f1 f2 f3 env).wp Q WE := by
  unfold chainE
  rw [w_bind]
  refine w_mono h fun x e h => ?_
  rw [w_bind]
  refine w_mono h fun y e2 ⟨b, h1, h2⟩ => ?_
  rw [h1, w_bind]
  cases b
  · exact h2.2 rfl
  · refine (w_bind _ _ _).mpr ?_
    refine w_mono (h2.1 rfl) fun z e ⟨r, q1, q2⟩ => ?_
    rw [q1]
    exact q2
theorem w_par2 {i j : Nat} (h : (f1 env).wp (fun x e1 => (f2 e1).wp (fun y e2 => ∃ e', putS e2 i x = some e' ∧ ∃ e'', putS e' j y = some e'' ∧ QF .nx e'') WE) WE) : (par2S i j f1 f2 env).wp QF WE := by
  unfold par2S
  rw [w_bind]
  refine w_mono h fun x e h => ?_
  rw [w_bind]
  refine w_mono h fun y e2 ⟨e', h1, e'', h2, h3⟩ => ?_
  rw [h1]
  simp only [w_some, Rs.bind]
  rw [h2]
  exact h3
theorem w_par3 {i j l : Nat} (h : (fa env).wp (fun ds e => ∃ x y z e1 e2 e3, ds = [x, y, z] ∧ putS e i x = some e1 ∧ putS e1 j y = some e2 ∧ putS e2 l z = some e3 ∧ QF .nx e3) WE) : (par3S i j l fa env).wp QF WE := by
  unfold par3S
  rw [w_bind]
  refine w_mono h fun ds e ⟨x, y, z, e1, e2, e3, h0, h1, h2, h3, h4⟩ => ?_
  subst h0
  simp only
  rw [h1]
  simp only [w_some, Rs.bind]
  rw [h2]
  simp only [w_some]
  rw [h3]
  exact h4
theorem w_callM1 {p i : Nat} {g : List PyData → Rs PyData} {dfl : List PyData} (h : (fa env).wp (fun ds e => (g (ds ++ dfl)).wp (fun d e' => Q d (e.set i (e'.getD p none))) WE) WE) : (callM p i g dfl fa env).wp Q WE := w_callM h
end
/-- one step at the head -/
local macro_rules | `(tactic| walk_at "kg1") => `(tactic| with_reducible first
  | refine w_seq ?_ | refine w_asg ?_ | refine w_ret ?_ | refine w_if ?_ | refine w_nil ?_ | refine nxC_nx ?_ | refine nxC_rt ?_ | refine w_cst ?_ | refine w_bin ?_ | refine w_un ?_ | refine w_nary ?_ | refine w_cons ?_ | refine w_nilA ?_ | refine w_tup ?_ | refine w_lst ?_ | refine w_asB ?_ | refine w_bool ?_ | refine w_notB ?_ | refine w_orB ?_ | refine w_andB ?_ | refine w_yes ?_ | refine w_truB ?_ | refine w_ifE ?_ | refine w_andV ?_ | refine w_notV ?_ | refine w_setS ?_ | refine w_drop ?_ | refine w_asgG ?_ | refine w_for ?_ | refine w_items ?_ | refine w_zip ?_ | refine w_comp ?_ | refine w_call1 ?_ | refine w_callM1 ?_ | refine w_callK ?_ | refine w_slice ?_ | refine w_noO ?_ | refine w_someO ?_ | refine w_chain ?_ | refine w_par2 ?_ | refine w_par3 ?_ | refine w_rng1 ?_
  | refine w_var (by with_unfolding_all rfl) ?_ | refine w_put (by with_unfolding_all rfl) ?_ | refine w_lim (by with_unfolding_all rfl) ?_ | fail)
/-- an operation that is done at once -/
local macro_rules | `(tactic| walk_at "kop") => `(tactic| with_reducible refine w_op (by with_unfolding_all rfl) ?_)
def encM (m : Mt) : PyData := .tuple [.int m.p, .int m.q, .int m.r, .int m.s]
theorem by_ok {m n : Mt} (h : sm n.p ∧ sm n.q ∧ sm n.r ∧ sm n.s) : (f__law_by [encM m, encM n]).wp (fun d _ => d = encM (m.mul n)) WE := by
  obtain ⟨h1, h2, h3, h4⟩ := h
  refine w_run ?_
  unfold F__law_by encM
  repeat first | walk_at "kg1" | with_reducible refine w_op (mulI_r (by assumption)) ?_ | walk_at "kop"
  rfl
/-! ### draws -/
structure Sd where
  cells : List Int
  at_ : Int
  left : Int
  count : Int
  sum : Int
def enS (c : List Int) (a l n t : Int) : PyData := .dict [(.str "cells", .list (c.map PyData.int)), (.str "at", .int a), (.str "left", .int l), (.str "count", .int n), (.str "sum", .int t)]
section
variable (c : List Int) (a l n t : Int)
theorem get_cells : ixA (enS c a l n t) (.str "cells") = some (.list (c.map PyData.int)) := rfl
theorem get_at : ixA (enS c a l n t) (.str "at") = some (.int a) := rfl
theorem get_left : ixA (enS c a l n t) (.str "left") = some (.int l) := rfl
theorem get_count : ixA (enS c a l n t) (.str "count") = some (.int n) := rfl
theorem get_sum : ixA (enS c a l n t) (.str "sum") = some (.int t) := rfl
theorem put_count (v : Int) : setD (enS c a l n t) (.str "count") (.int v) = some (enS c a l v t) := rfl
theorem put_at (v : Int) : setD (enS c a l n t) (.str "at") (.int v) = some (enS c v l n t) := rfl
theorem put_left (v : Int) : setD (enS c a l n t) (.str "left") (.int v) = some (enS c a v n t) := rfl
end
/-- a state of the draws -/
def StO (d : PyData) : Prop := ∃ c a l n t, 0 ≤ a ∧ d = enS c a l n t
theorem pow18 : powD (.int 10) (.int 18) = some (.int 1000000000000000000) := rfl
theorem pow60 : powD (.int 10) (.int 60) = some (.int (10 ^ 60)) := rfl
theorem modD_p {a b : Int} (h : b ≠ 0) : modD (.int a) (.int b) = some (.int (a.fmod b)) := by simp [modD, ii, h]
theorem fdivD_p {a b : Int} (h : b ≠ 0) (h2 : b.natAbs < 1073741824) : fdivD (.int a) (.int b) = some (.int (a.fdiv b)) := by simp [fdivD, ii, h, h2]
theorem sm_mod (a : Int) : sm (a.fmod 2305843009213693951) := by
  have h1 := Int.fmod_nonneg_of_pos a (b := 2305843009213693951) (by decide)
  have h2 := Int.fmod_lt_of_pos a (b := 2305843009213693951) (by decide)
  unfold sm
  omega
theorem cell_at {l : List Int} {i : Int} (h0 : 0 ≤ i) (h1 : i < l.length) : ∃ c : Int, ixA (.list (l.map PyData.int)) (.int i) = some (.int c) := by
  have hl : i.toNat < l.length := by omega
  refine ⟨l[i.toNat], ?_⟩
  simp [ixA, ixD, atI, ixN, h0, h1, hl]
local macro_rules | `(tactic| walk_at "kdr") => `(tactic| with_reducible first
  | refine w_op (get_count _ _ _ _ _) ?_ | refine w_op (get_left _ _ _ _ _) ?_ | refine w_op (get_at _ _ _ _ _) ?_ | refine w_op (get_cells _ _ _ _ _) ?_ | refine w_op (get_sum _ _ _ _ _) ?_
  | refine w_op (mulI_r (by with_unfolding_all decide)) ?_ | refine w_op (mulI_r (sm_mod _)) ?_ | refine w_op (mulI_l (sm_mod _)) ?_ | refine w_op (modD_p (by with_unfolding_all decide)) ?_ | refine w_op pow18 ?_
  | refine w_op (by with_unfolding_all rfl) ?_ | fail)
local macro_rules | `(tactic| walk_at "kds") => `(tactic| with_reducible first
  | refine w_setD (by with_unfolding_all rfl) (put_count _ _ _ _ _ _) ?_
  | refine w_setD (by with_unfolding_all rfl) (put_at _ _ _ _ _ _) ?_
  | refine w_setD (by with_unfolding_all rfl) (put_left _ _ _ _ _ _) ?_ | fail)
theorem w_sp {b : Bool} {P R : Prop} (h1 : b = true → P) (h2 : b = false → R) : (b = true → P) ∧ (b = false → R) := ⟨h1, h2⟩
theorem w_cell {l : List Int} {i : Int} (h0 : 0 ≤ i) (h : decide (i < ((l.map PyData.int).length : Int)) = true) {R : PyData → Prop} (q : ∀ c : Int, R (.int c)) : ∃ r, ixA (.list (l.map PyData.int)) (.int i) = some r ∧ R r := by
  obtain ⟨c, hc⟩ := cell_at (l := l) h0 (by simpa using h)
  exact ⟨_, hc, q c⟩
theorem draw_ok {d : PyData} (hs : StO d) {many : Int} (hm : 0 < many) (hb : many < 1073741824) {Q : PyData → DV.Env → Prop} (k : ∀ (r : Int) (d' : PyData) (e : DV.Env), 0 ≤ r → r < many → StO d' → e.getD 0 none = some d' → Q (.int r) e) : (f__law_draw [d, .int many]).wp Q WE := by
  obtain ⟨c, a, l, n, t, h0, rfl⟩ := hs
  have hm0 : many ≠ 0 := by omega
  have hb2 : many.natAbs < 1073741824 := by omega
  have f1 : ∀ (x : Int), 0 ≤ x.fmod many := fun x => Int.fmod_nonneg_of_pos x hm
  have f2 : ∀ (x : Int), x.fmod many < many := fun x => Int.fmod_lt_of_pos x hm
  have h1 : 0 ≤ a + 1 := by omega
  refine w_run ?_
  unfold F__law_draw
  repeat' first | walk_at "kg1" | walk_at "kdr" | walk_at "kds" | (with_reducible refine w_cell h0 (by assumption) fun c => ?_) | (with_reducible refine w_op (modD_p hm0) ?_) | (with_reducible refine w_op (fdivD_p hm0 hb2) ?_) | (with_reducible refine w_sp (fun h => ?_) (fun h => ?_))
  all_goals first
    | exact k _ _ _ (f1 _) (f2 _) ⟨_, _, _, _, _, h0, rfl⟩ rfl
    | exact k _ _ _ (f1 _) (f2 _) ⟨_, _, _, _, _, h1, rfl⟩ rfl
    | skip
  trace_state

set_option linter.all false
set_option maxRecDepth 100000
set_option maxHeartbeats 1000000
open DV PySem L2
open PyProof.Rows hiding St
/-! ### comprehensions -/
section
variable {g : PyData → DV.Env → Option DV.Env} {c : DV.Env → Rs Bool} {f : DV.Env → Rs PyData} {own : List Nat}
/-- each item gives φ of it; what stands beside the block's own slots stays -/
theorem w_compM (φ : PyData → PyData) (E0 : DV.Env) : ∀ (ds : List PyData) (e : DV.Env), wipeE e own = E0 → (∀ d ∈ ds, ∃ e1, g d E0 = some e1 ∧ (c e1).wp (fun b e2 => b = true ∧ (f e2).wp (fun y e3 => y = φ d ∧ wipeE e3 own = E0) WE) WE) → (compL own g c f ds e).wp (fun ys e' => ys = ds.map φ ∧ wipeE e' own = E0) WE
  | [], e, he, _ => ⟨rfl, he⟩
  | d :: ds, e, he, h => by
    obtain ⟨e1, h1, h2⟩ := h d (List.mem_cons_self ..)
    unfold compL
    rw [he, h1]
    simp only
    rw [w_bind, w_nx]
    refine w_mono h2 fun b e2 ⟨hb, h3⟩ => ?_
    rw [if_pos hb, w_bind, w_nx]
    refine w_mono h3 fun y e3 ⟨hy, h4⟩ => ?_
    rw [w_bind]
    refine w_mono (w_compM φ E0 ds e3 h4 fun d' hd => h d' (List.mem_cons_of_mem _ hd)) fun ys e' ⟨hys, h5⟩ => ?_
    exact ⟨by rw [hy, hys]; rfl, h5⟩
/-- each item gives something of which P is true; I is kept -/
theorem w_compI (P : PyData → Prop) (I : DV.Env → Prop) : ∀ (ds : List PyData) (e : DV.Env), I (wipeE e own) → (∀ d ∈ ds, ∀ E0, I E0 → ∃ e1, g d E0 = some e1 ∧ (c e1).wp (fun b e2 => b = true ∧ (f e2).wp (fun y e3 => P y ∧ I (wipeE e3 own)) WE) WE) → (compL own g c f ds e).wp (fun ys e' => (∀ y ∈ ys, P y) ∧ ys.length = ds.length ∧ I (wipeE e' own)) WE
  | [], e, he, _ => ⟨fun _ z => (nomatch z), rfl, he⟩
  | d :: ds, e, he, h => by
    obtain ⟨e1, h1, h2⟩ := h d (List.mem_cons_self ..) _ he
    unfold compL
    rw [h1]
    simp only
    rw [w_bind, w_nx]
    refine w_mono h2 fun b e2 ⟨hb, h3⟩ => ?_
    rw [if_pos hb, w_bind, w_nx]
    refine w_mono h3 fun y e3 ⟨hy, h4⟩ => ?_
    rw [w_bind]
    refine w_mono (w_compI P I ds e3 h4 fun d' hd => h d' (List.mem_cons_of_mem _ hd)) fun ys e' ⟨hys, hl, h5⟩ => ?_
    exact ⟨fun z hz => (List.mem_cons.mp hz).elim (fun q => q ▸ hy) (hys z), by simp [hl], h5⟩
end
section
variable {Q : PyData → DV.Env → Prop} {QF : Fl → DV.Env → Prop} {QB : Bool → DV.Env → Prop} {QL : List PyData → DV.Env → Prop} {env : DV.Env} {f f1 f2 f3 : DV.Env → Rs PyData} {fa : DV.Env → Rs (List PyData)}
theorem w_get2 {fk fz : DV.Env → Rs PyData} (h : (f env).wp (fun d e => (entsD d).isSome = true ∧ (fk e).wp (fun k e1 => (fz e1).wp (fun z e2 => ∃ o, dget d k = some o ∧ Q (o.getD z) e2) WE) WE) WE) : (getE2 f fk fz env).wp Q WE := by
  unfold getE2
  rw [w_bind]
  refine w_mono h fun d e ⟨h1, h2⟩ => ?_
  rw [if_pos h1, w_bind]
  refine w_mono h2 fun k e1 h3 => ?_
  rw [w_bind]
  refine w_mono h3 fun z e2 ⟨o, h4, h5⟩ => ?_
  rw [h4]
  exact h5
theorem w_walk {pr : PyData × PyData → PyData} {i : Nat} {d : PyData} {kvs : List (PyData × PyData)} (h1 : env[i]? = some (some d)) (h2 : entsD d = some kvs) (h : QL (kvs.map pr) env) : (walkD entsD pr i env).wp QL WE := by
  unfold walkD
  rw [h1]
  simp only
  rw [h2]
  exact h
end
/-! ### polynomials -/
def encK (k : Ky) : PyData := .tuple [.int k.1, .int k.2.1, .int k.2.2]
def encE (e : Ky × Int) : PyData := .tuple [encK e.1, .int e.2]
def kvE (e : Ky × Int) : PyData × PyData := (encK e.1, .int e.2)
def encD (L : Pl) : PyData := .dict ((.none, .none) :: L.map kvE)
def encP (L : Pl) : PyData := .tuple (L.map encE)
def encW (w : List Int) : PyData := .tuple (w.map PyData.int)
/-- a product of powers, as a tuple or as a constant of the module -/
def PW (p : Ky) (d : PyData) : Prop := d = encK p ∨ d = .dict [(.none, encK p)]
theorem tD_encK (k : Ky) : tD (encK k) = some [.inl k.1, .inl k.2.1, .inl k.2.2] := rfl
theorem tD_eq (k q : Ky) : (tD (encK q) = some [.inl k.1, .inl k.2.1, .inl k.2.2]) ↔ q = k := by
  rw [tD_encK, ky_eq]
  simp
theorem look_enc (k : Ky) : ∀ L : Pl, ((look tD (L.map kvE) [.inl k.1, .inl k.2.1, .inl k.2.2]).getD (.int 0)) = .int (lookT k L)
  | [] => rfl
  | e :: r => by
    have ih := look_enc k r
    unfold look at ih ⊢
    simp only [List.map_cons, List.find?_cons, lookT, kvE]
    by_cases z : e.1 = k
    · have : decide (tD (encK e.1) = some [.inl k.1, .inl k.2.1, .inl k.2.2]) = true := decide_eq_true ((tD_eq k e.1).mpr z)
      rw [this, if_pos z]
      rfl
    · have : decide (tD (encK e.1) = some [.inl k.1, .inl k.2.1, .inl k.2.2]) = false := decide_eq_false fun q => z ((tD_eq k e.1).mp q)
      rw [this, if_neg z]
      exact ih
theorem get_enc (L : Pl) (k : Ky) : ∃ o, dget (encD L) (encK k) = some o ∧ o.getD (.int 0) = .int (lookT k L) := ⟨_, rfl, look_enc k L⟩
theorem put_enc (L : Pl) (k : Ky) (v : Int) (h : L.length < lim) : setD (encD L) (encK k) (.int v) = some (encD (putT L k v)) := by
  show (if (L.map kvE).length < lim then some (PyData.dict ((.none, .none) :: put tD (L.map kvE) [.inl k.1, .inl k.2.1, .inl k.2.2] (encK k) (.int v))) else none) = _
  rw [if_pos (by rw [List.length_map]; exact h)]
  have key : put tD (L.map kvE) [.inl k.1, .inl k.2.1, .inl k.2.2] (encK k) (.int v) = (putT L k v).map kvE := by
    unfold put putT
    have ha : ((L.map kvE).any fun p => decide (tD p.1 = some [.inl k.1, .inl k.2.1, .inl k.2.2])) = L.any fun e => decide (e.1 = k) := by
      rw [List.any_map]
      congr 1
      funext e
      show decide (tD (encK e.1) = some [.inl k.1, .inl k.2.1, .inl k.2.2]) = decide (e.1 = k)
      exact decide_eq_decide.mpr (tD_eq k e.1)
    rw [ha]
    split
    · rw [List.map_map, List.map_map]
      apply List.map_congr_left
      intro e _
      show (if tD (encK e.1) = some [.inl k.1, .inl k.2.1, .inl k.2.2] then ((kvE e).1, .int v) else kvE e) = kvE (if e.1 = k then (e.1, v) else e)
      by_cases z : e.1 = k
      · rw [if_pos z, if_pos ((tD_eq k e.1).mpr z)]
        rfl
      · rw [if_neg z, if_neg fun q => z ((tD_eq k e.1).mp q)]
    · rw [List.map_append]
      rfl
  rw [key]
  rfl
theorem zip_enc {p k : Ky} {d : PyData} (h : PW p d) : zipD [d, encK k] = some [.tuple [.int p.1, .int k.1], .tuple [.int p.2.1, .int k.2.1], .tuple [.int p.2.2, .int k.2.2]] := by
  rcases h with rfl | rfl <;> rfl
theorem w_put' {i : Nat} {d : PyData} {e : DV.Env} {R : DV.Env → Prop} (h : decide (i < e.length) = true) (r : R (e.set i (some d))) : ∃ e', putS e i d = some e' ∧ R e' := ⟨_, if_pos (of_decide_eq_true h), r⟩
/-- one number is added to the sum -/
theorem sum_body {x0 pw x4 : PyData} {x7 x8 x9 : Option PyData} {acc : Pl} {p : Ky} {m : Int} {k : Ky} {v : Int} (hp : PW p pw) (hm : sm m) (hl : acc.length < lim) {Q : Fl → DV.Env → Prop} (q : ∀ y7 : Option PyData, Q .nx [some x0, some (encD (addT acc (kadd p k) (m * v))), some pw, some (.int m), some x4, some (encK k), some (.int v), y7, none, none]) :
    (seqS (asgS 7 (nary (one tupF) (consA (compE [8, 9] (zipE (consA (varE 2) (consA (varE 5) nilA))) (tupG (consG (nameG 8) (consG (nameG 9) (nilG)))) (yesB) (bin2 addD (varE 8) (varE 9))) nilA))) (setS 1 (varE 7) (bin2 addD (getE2 (varE 1) (varE 7) (cstE (.int 0))) (bin2 mulI (varE 3) (varE 6))))
      [some x0, some (encD acc), some pw, some (.int m), some x4, some (encK k), some (.int v), x7, x8, x9]).wp Q WE := by
  repeat' walk_at "kg1"
  refine ⟨_, zip_enc hp, ?_⟩
  refine w_lim (by with_unfolding_all rfl) ?_
  refine w_mono (w_compM (fun d => match d with | .tuple [.int a, .int b] => .int (a + b) | _ => .none) [some x0, some (encD acc), some pw, some (.int m), some x4, some (encK k), some (.int v), x7, none, none] _ _ rfl ?_) fun ys e' ⟨hy, he⟩ => ?_
  · intro d hd
    simp only [List.mem_cons, List.not_mem_nil, or_false] at hd
    rcases hd with rfl | rfl | rfl
    all_goals
      refine ⟨_, rfl, ?_⟩
      repeat' first | walk_at "kg1" | (with_reducible refine w_op (by with_unfolding_all rfl) ?_)
      exact ⟨rfl, by repeat' first | walk_at "kg1" | (with_reducible refine w_op (by with_unfolding_all rfl) ?_); exact ⟨rfl, rfl⟩⟩
  · rw [hy, he]
    repeat' first | walk_at "kg1" | (with_reducible refine w_op (by with_unfolding_all rfl) ?_)
    refine w_get2 ?_
    repeat' walk_at "kg1"
    refine ⟨rfl, ?_⟩
    repeat' walk_at "kg1"
    obtain ⟨o, h1, h2⟩ := get_enc acc (kadd p k)
    refine ⟨o, h1, ?_⟩
    rw [h2]
    repeat' first | walk_at "kg1" | (with_reducible refine w_op (mulI_l hm) ?_) | (with_reducible refine w_op (by with_unfolding_all rfl) ?_)
    refine w_setD rfl (put_enc acc (kadd p k) _ hl) ?_
    exact q _

set_option linter.all false
set_option maxRecDepth 100000
set_option maxHeartbeats 1000000
open DV PySem L2
open PyProof.Rows hiding St
local macro_rules | `(tactic| walk_at "kgo") => `(tactic| repeat' first | walk_at "kg1" | (with_reducible refine w_op (by with_unfolding_all rfl) ?_) | fail)
theorem ne_int (a b : Int) : neD (.int a) (.int b) = some (.bool (!(a == b))) := by
  simp [neD, SeqAt.shaped, PyData.canLay0, PyData.depth, PyData.eqv]
theorem eq_int (a b : Int) : eqD (.int a) (.int b) = some (.bool (a == b)) := by
  simp [eqD, SeqAt.shaped, PyData.canLay0, PyData.depth, PyData.eqv]
theorem w_dc {Q : PyData → DV.Env → Prop} {env : DV.Env} {own : List Nat} {fi : DV.Env → Rs (List PyData)} {g : PyData → DV.Env → Option DV.Env} {c : DV.Env → Rs Bool} {fk fv : DV.Env → Rs PyData} (h : (fi env).wp (fun ds e0 => (dcL own g c fk fv ds (.dict [(.none, .none)]) e0).wp (fun d e1 => Q d (wipeE e1 own)) WE) WE) : (dcE true own fi g c fk fv env).wp Q WE := by
  unfold dcE
  rw [w_bind]
  refine w_mono h fun ds e h => ?_
  rw [w_bind]
  exact h
/-- the numbers that are not 0, in a new dict -/
theorem dc_run {x0 x1 x2 x3 x4 x5 x8 x9 : Option PyData} : ∀ (r acc : Pl) (y6 y7 : Option PyData), Nk (acc ++ r) → (acc ++ r).length < lim →
    (dcL [7, 6] (tupG (consG (nameG 7) (consG (nameG 6) (nilG)))) (asB (bin2 neD (varE 6) (cstE (.int 0)))) (varE 7) (varE 6) (r.map encE) (encD acc) [x0, x1, x2, x3, x4, x5, y6, y7, x8, x9]).wp (fun d _ => d = encD (acc ++ nz r)) WE
  | [], acc, _, _, _, _ => by
    show encD acc = encD (acc ++ [])
    rw [List.append_nil]
  | e :: r, acc, y6, y7, hn, hl => by
    have step : ∃ e1, tupG (consG (nameG 7) (consG (nameG 6) (nilG))) (encE e) (wipeE [x0, x1, x2, x3, x4, x5, y6, y7, x8, x9] [7, 6]) = some e1 ∧ e1 = [x0, x1, x2, x3, x4, x5, some (.int e.2), some (encK e.1), x8, x9] := ⟨_, rfl, rfl⟩
    obtain ⟨e1, h1, h2⟩ := step
    subst h2
    show (dcL _ _ _ _ _ (encE e :: r.map encE) _ _).wp _ _
    unfold dcL
    rw [h1]
    simp only
    rw [w_bind, w_nx]
    walk_at "kgo"
    have hz : (nz (e :: r)) = if e.2 = 0 then nz r else e :: nz r := by
      unfold nz
      rw [List.filter_cons]
      by_cases z : e.2 = 0
      · simp [z]
      · simp [z]
    rw [hz]
    by_cases z : e.2 = 0
    · rw [if_neg (by simp [PyData.eqv, z]), if_pos z]
      exact dc_run r acc _ _ (hn.sublist ((List.sublist_cons_self e r).append_left acc |>.map _)) (by
        simp only [List.length_append, List.length_cons] at hl ⊢
        omega)
    · rw [if_pos (by simp [PyData.eqv, z]), if_neg z]
      rw [w_bind, w_nx]
      walk_at "kgo"
      rw [w_bind, w_nx]
      walk_at "kgo"
      have hk : ¬ (acc.any fun q => decide (q.1 = e.1)) = true := by
        intro q
        obtain ⟨a, ha, hq⟩ := List.any_eq_true.mp q
        have hq' : a.1 = e.1 := of_decide_eq_true hq
        have hn' : (acc.map (·.1) ++ (e :: r).map (·.1)).Nodup := by rw [← List.map_append]; exact hn
        rw [List.nodup_append] at hn'
        exact hn'.2.2 a.1 (List.mem_map_of_mem ha) e.1 (by simp) hq'
      have hp := put_enc acc e.1 e.2 (by
        simp only [List.length_append, List.length_cons] at hl
        omega)
      have hp2 : putT acc e.1 e.2 = acc ++ [e] := by
        unfold putT
        rw [if_neg hk]
      rw [hp2] at hp
      have hp3 : dput (encD acc) (encK e.1) (.int e.2) = some (encD (acc ++ [e])) := hp
      rw [w_bind, hp3]
      show (dcL _ _ _ _ _ (r.map encE) _ _).wp _ _
      have e3 : acc ++ e :: nz r = (acc ++ [e]) ++ nz r := by simp
      rw [e3]
      refine dc_run r (acc ++ [e]) _ _ ?_ ?_
      · rw [List.append_assoc]
        exact hn
      · rw [List.append_assoc]
        exact hl
/-- one part's numbers -/
theorem sum_in {x0 pw : PyData} {x5 x6 x7 : Option PyData} {acc : Pl} {p : Ky} {m : Int} {N : Pl} {n n' : Nat} (hp : PW p pw) (hm : sm m) (ha : Nk acc) (hb : Bx n' acc) (hN : Bx n N) (sh : ∀ k, inB n k → inB n' (kadd p k)) (hn : n' ≤ 30) {Q : Fl → DV.Env → Prop}
    (q : ∀ y5 y6 y7 : Option PyData, Q .nx [some x0, some (encD (accT p m acc N)), some pw, some (.int m), some (encD N), y5, y6, y7, none, none]) :
    (forS (walkD entsD prItem 4) (tupG (consG (nameG 5) (consG (nameG 6) (nilG)))) (seqS (asgS 7 (nary (one tupF) (consA (compE [8, 9] (zipE (consA (varE 2) (consA (varE 5) nilA))) (tupG (consG (nameG 8) (consG (nameG 9) (nilG)))) (yesB) (bin2 addD (varE 8) (varE 9))) nilA))) (setS 1 (varE 7) (bin2 addD (getE2 (varE 1) (varE 7) (cstE (.int 0))) (bin2 mulI (varE 3) (varE 6)))))
      [some x0, some (encD acc), some pw, some (.int m), some (encD N), x5, x6, x7, none, none]).wp Q WE := by
  refine w_for (w_walk rfl rfl ?_)
  have cube : ∀ n : Nat, n ≤ 30 → (n + 1) * ((n + 1) * (n + 1)) < lim := by
    intro n h
    have h1 : (n + 1) * (n + 1) ≤ 31 * 31 := Nat.mul_le_mul (by omega) (by omega)
    have h2 : (n + 1) * ((n + 1) * (n + 1)) ≤ 31 * (31 * 31) := Nat.mul_le_mul (by omega) h1
    show _ < 16777216
    omega
  refine w_loop (fun ds e => ∃ (a r : Pl) (y5 y6 y7 : Option PyData), ds = r.map encE ∧ e = [some x0, some (encD a), some pw, some (.int m), some (encD N), y5, y6, y7, none, none] ∧ Nk a ∧ Bx n' a ∧ Bx n r ∧ accT p m a r = accT p m acc N) ?_ ?_ _ _ ⟨acc, N, x5, x6, x7, ?_, rfl, ha, hb, hN, rfl⟩
  · rintro e ⟨a, r, y5, y6, y7, h1, rfl, _, _, _, h2⟩
    cases r with
    | nil =>
      have h2' : a = accT p m acc N := h2
      rw [h2']
      exact q _ _ _
    | cons _ _ => cases h1
  · rintro d ds e ⟨a, r, y5, y6, y7, h1, rfl, h3, h4, h5, h6⟩
    cases r with
    | nil => cases h1
    | cons k r =>
      have h1' : d :: ds = encE k :: r.map encE := h1
      injection h1' with e1 e2
      subst e1 e2
      refine ⟨_, rfl, ?_⟩
      refine sum_body hp hm (Nat.lt_of_le_of_lt (box_len h3 h4) (cube _ hn)) fun y7 => ?_
      exact ⟨_, r, _, _, _, rfl, rfl, Nk_put h3 _ _, Bx_put h4 (sh _ (h5 k (List.mem_cons_self ..))) _, fun x hx => h5 x (List.mem_cons_of_mem _ hx), h6⟩
  · rw [List.map_map]
    rfl
/-- parts as data -/
inductive EP : List (Ky × Int × Pl) → List PyData → Prop
  | nil : EP [] []
  | cons {p : Ky} {m : Int} {L : Pl} {pw : PyData} {ps : List (Ky × Int × Pl)} {ds : List PyData} : PW p pw → EP ps ds → EP ((p, m, L) :: ps) (.tuple [pw, .int m, encD L] :: ds)
theorem summed_ok {ps : List (Ky × Int × Pl)} {ds : List PyData} {n n' : Nat} (he : EP ps ds) (hm : ∀ p ∈ ps, sm p.2.1 ∧ okP n n' p) (hn : n' ≤ 30) : (f_summed [.list ds]).wp (fun d _ => d = encD (summedT ps)) WE := by
  refine w_run ?_
  unfold F_summed
  walk_at "kgo"
  refine w_seqOf rfl ?_
  refine w_loop (fun qs e => ∃ (a : Pl) (rs : List (Ky × Int × Pl)) (y2 y3 y4 y5 y6 y7 : Option PyData), EP rs qs ∧ e = [some (.list ds), some (encD a), y2, y3, y4, y5, y6, y7, none, none] ∧ Nk a ∧ Bx n' a ∧ (∀ p ∈ rs, sm p.2.1 ∧ okP n n' p) ∧ sumT a rs = sumT [] ps) ?_ ?_ _ _ ⟨[], ps, _, _, _, _, _, _, he, rfl, List.nodup_nil, fun _ z => (nomatch z), hm, rfl⟩
  · rintro e ⟨a, rs, y2, y3, y4, y5, y6, y7, h1, rfl, h2, h3, _, h4⟩
    cases h1
    have h4' : a = sumT [] ps := h4
    walk_at "kgo"
    refine w_dc (w_walk rfl rfl ?_)
    have em : (a.map kvE).map prItem = a.map encE := by rw [List.map_map]; rfl
    rw [em]
    have hl : a.length < lim := by
      refine Nat.lt_of_le_of_lt (box_len h2 h3) ?_
      have q1 : (n' + 1) * (n' + 1) ≤ 31 * 31 := Nat.mul_le_mul (by omega) (by omega)
      have q2 : (n' + 1) * ((n' + 1) * (n' + 1)) ≤ 31 * (31 * 31) := Nat.mul_le_mul (by omega) q1
      show _ < 16777216
      omega
    refine w_mono (dc_run a [] _ _ (by simpa using h2) (by simpa using hl)) fun d e hd => ?_
    show d = encD (nz (sumT [] ps))
    rw [hd, h4']
    rfl
  · rintro d qs e ⟨a, rs, y2, y3, y4, y5, y6, y7, h1, rfl, h2, h3, h4, h5⟩
    cases h1 with
    | @cons p m L pw rs qs hp he =>
      obtain ⟨q1, q2, q3⟩ := h4 _ (List.mem_cons_self ..)
      refine ⟨_, rfl, ?_⟩
      refine sum_in hp q1 h2 h3 q3 q2 hn fun y5 y6 y7 => ?_
      obtain ⟨r1, r2, _⟩ := accT_all p m n n' q2 L a h2 h3 q3
      exact ⟨_, rs, _, _, _, _, _, _, he, rfl, r1, r2, fun x hx => h4 x (List.mem_cons_of_mem _ hx), h5⟩

set_option linter.all false
set_option maxRecDepth 100000
set_option maxHeartbeats 1000000
open DV PySem L2
open PyProof.Rows hiding St
theorem w_ex {α : Type} {o : Option α} {a : α} {R : α → Prop} (h : o = some a) (r : R a) : ∃ a, o = some a ∧ R a := ⟨a, h, r⟩
local macro_rules | `(tactic| walk_at "kgo") => `(tactic| repeat' first | walk_at "kg1" | (with_reducible refine w_op (by with_unfolding_all rfl) ?_) | (with_reducible refine w_ex (by with_unfolding_all rfl) ?_) | fail)
def encQ (q : Q4) : PyData := .tuple [encD q.o, encD q.a, encD q.b, encD q.c]
theorem hN {n : Nat} : ∀ p ∈ ([] : List (Ky × Int × Pl)), sm p.2.1 ∧ okP n (n + 1) p := fun _ z => nomatch z
theorem hC {n : Nat} {k : Ky} {m : Int} {L : Pl} {ps : List (Ky × Int × Pl)} (hk : inB 1 k) (hm : sm m) (h : Gd n L) (t : ∀ p ∈ ps, sm p.2.1 ∧ okP n (n + 1) p) : ∀ p ∈ (k, m, L) :: ps, sm p.2.1 ∧ okP n (n + 1) p := fun p hp => (List.mem_cons.mp hp).elim (fun e => by
  subst e
  exact ⟨hm, okP_of hk h⟩) (t p)
theorem sm1 : sm 1 := by decide
theorem smn : sm (-1) := by decide
theorem sm2 : sm 2 := by decide
theorem first_ok {q : Q4} {n : Nat} (G : G4 n q) (hn : n + 1 ≤ 30) : (f_by_first [encQ q]).wp (fun d _ => d = encQ (firstT q)) WE := by
  refine w_run ?_
  unfold F_by_first encQ
  walk_at "kgo"
  refine w_mono (summed_ok (ps := [(k0, -1, q.a), (kZ, 1, q.b), (kXY, -1, q.b), (kY, -1, q.c)]) (.cons (.inl rfl) (.cons (.inr rfl) (.cons (.inl rfl) (.cons (.inr rfl) .nil)))) (hC i0 smn G.a (hC iZ sm1 G.b (hC iXY smn G.b (hC iY smn G.c hN)))) hn) fun d e hd => ?_
  subst hd
  walk_at "kgo"
  refine w_mono (summed_ok (ps := [(k0, 1, q.o), (kX, 1, q.a), (kY, 1, q.b), (kZ, 1, q.c)]) (.cons (.inl rfl) (.cons (.inr rfl) (.cons (.inr rfl) (.cons (.inr rfl) .nil)))) (hC i0 sm1 G.o (hC iX sm1 G.a (hC iY sm1 G.b (hC iZ sm1 G.c hN)))) hn) fun d e hd => ?_
  subst hd
  walk_at "kgo"
  refine w_mono (summed_ok (ps := [(kX, 1, q.b), (k0, 1, q.c)]) (.cons (.inr rfl) (.cons (.inl rfl) .nil)) (hC iX sm1 G.b (hC i0 sm1 G.c hN)) hn) fun d e hd => ?_
  subst hd
  walk_at "kgo"
  refine w_mono (summed_ok (ps := [(k0, -1, q.b)]) (.cons (.inl rfl) .nil) (hC i0 smn G.b hN) hn) fun d e hd => ?_
  subst hd
  walk_at "kgo"
  rfl
theorem second_ok {q : Q4} {n : Nat} (G : G4 n q) (hn : n + 1 ≤ 30) : (f_by_second [encQ q]).wp (fun d _ => d = encQ (secondT q)) WE := by
  refine w_run ?_
  unfold F_by_second encQ
  walk_at "kgo"
  refine w_mono (summed_ok (ps := [(k0, -1, q.b)]) (.cons (.inl rfl) .nil) (hC i0 smn G.b hN) hn) fun d e hd => ?_
  subst hd
  walk_at "kgo"
  refine w_mono (summed_ok (ps := [(k0, -1, q.c)]) (.cons (.inl rfl) .nil) (hC i0 smn G.c hN) hn) fun d e hd => ?_
  subst hd
  walk_at "kgo"
  refine w_mono (summed_ok (ps := [(k0, 1, q.o), (kY, 1, q.b)]) (.cons (.inl rfl) (.cons (.inr rfl) .nil)) (hC i0 sm1 G.o (hC iY sm1 G.b hN)) hn) fun d e hd => ?_
  subst hd
  walk_at "kgo"
  refine w_mono (summed_ok (ps := [(k0, 1, q.a), (kY, 1, q.c)]) (.cons (.inl rfl) (.cons (.inr rfl) .nil)) (hC i0 sm1 G.a (hC iY sm1 G.c hN)) hn) fun d e hd => ?_
  subst hd
  walk_at "kgo"
  rfl

set_option linter.all false
set_option maxRecDepth 100000
set_option maxHeartbeats 1000000
open DV PySem L2
open PyProof.Rows hiding St
theorem w_spt {b : Bool} {P R : Prop} (hb : b = true) (h : P) : (b = true → P) ∧ (b = false → R) := ⟨fun _ => h, fun z => (Bool.noConfusion (hb.symm.trans z))⟩
theorem w_spf {b : Bool} {P R : Prop} (hb : b = false) (h : R) : (b = true → P) ∧ (b = false → R) := ⟨fun z => (Bool.noConfusion (hb.symm.trans z)), fun _ => h⟩
local macro_rules | `(tactic| walk_at "kgg") => `(tactic| repeat' first | walk_at "kg1" | (with_reducible refine w_op (by with_unfolding_all rfl) ?_) | (with_reducible refine w_ex (by with_unfolding_all rfl) ?_) | (with_reducible refine w_spt (by with_unfolding_all rfl) ?_) | (with_reducible refine w_spf (by with_unfolding_all rfl) ?_) | fail)
theorem w_compZ {g : PyData → DV.Env → Option DV.Env} {c : DV.Env → Rs Bool} {f : DV.Env → Rs PyData} {own : List Nat} (E0 : DV.Env) : ∀ (zs : List (PyData × PyData)) (e : DV.Env), wipeE e own = E0 → (∀ z ∈ zs, ∃ e1, g z.1 E0 = some e1 ∧ (c e1).wp (fun b e2 => b = true ∧ (f e2).wp (fun y e3 => y = z.2 ∧ wipeE e3 own = E0) WE) WE) → (compL own g c f (zs.map (·.1)) e).wp (fun ys e' => ys = zs.map (·.2) ∧ wipeE e' own = E0) WE
  | [], e, he, _ => ⟨rfl, he⟩
  | z :: zs, e, he, h => by
    obtain ⟨e1, h1, h2⟩ := h z (List.mem_cons_self ..)
    show (compL own g c f (z.1 :: zs.map (·.1)) e).wp _ _
    unfold compL
    rw [he, h1]
    simp only
    rw [w_bind, w_nx]
    refine w_mono h2 fun b e2 ⟨hb, h3⟩ => ?_
    rw [if_pos hb, w_bind, w_nx]
    refine w_mono h3 fun y e3 ⟨hy, h4⟩ => ?_
    rw [w_bind]
    refine w_mono (w_compZ E0 zs e3 h4 fun d' hd => h d' (List.mem_cons_of_mem _ hd)) fun ys e' ⟨hys, h5⟩ => ?_
    exact ⟨by rw [hy, hys]; rfl, h5⟩
theorem sub_ok {t : Ky} {pw : PyData} {L N : Pl} {n : Nat} (hp : PW t pw) (ht : inB 1 t) (hL : Gd n L) (hN2 : Gd n N) (hn : n + 1 ≤ 30) : (f_summed [.list [.tuple [pw, .int 1, encD L], .tuple [encK k0, .int (-1), encD N]]]).wp (fun d _ => d = encD (summedT [(t, 1, L), (k0, -1, N)])) WE :=
  summed_ok (ps := [(t, 1, L), (k0, -1, N)]) (.cons hp (.cons (.inl rfl) .nil)) (hC ht sm1 hL (hC i0 smn hN2 hN)) hn
/-- the tail for a letter turned -/
theorem neg_tail {t : Ky} {pw x1 : PyData} {p q : Q4} {n : Nat} (hp : PW t pw) (ht : inB 1 t) (G : G4 n p) (Gq : G4 n q) (hn : n + 1 ≤ 30) {E : DV.Env} (hE : wipeE E [5, 6] = [some (encQ p), some x1, some (encQ q), some pw, some (encK k0), none, none]) :
    (compL [5, 6] (tupG (consG (nameG 5) (consG (nameG 6) (nilG)))) (yesB) (callE f_summed [] (consA (lstE (consA (tupE (consA (varE 3) (consA (cstE (.int 1)) (consA (varE 5) nilA)))) (consA (tupE (consA (varE 4) (consA (un1 negD (cstE (.int 1))) (consA (varE 6) nilA)))) nilA))) nilA))
      [.tuple [encD p.o, encD q.o], .tuple [encD p.a, encD q.a], .tuple [encD p.b, encD q.b], .tuple [encD p.c, encD q.c]] E).wp (fun ys _ => ys = [encD (summedT [(t, 1, p.o), (k0, -1, q.o)]), encD (summedT [(t, 1, p.a), (k0, -1, q.a)]), encD (summedT [(t, 1, p.b), (k0, -1, q.b)]), encD (summedT [(t, 1, p.c), (k0, -1, q.c)])]) WE := by
  have one : ∀ {L N : Pl}, Gd n L → Gd n N → ∃ e1, tupG (consG (nameG 5) (consG (nameG 6) (nilG))) (.tuple [encD L, encD N]) [some (encQ p), some x1, some (encQ q), some pw, some (encK k0), none, none] = some e1 ∧ (yesB e1).wp (fun b e2 => b = true ∧ ((callE f_summed [] (consA (lstE (consA (tupE (consA (varE 3) (consA (cstE (.int 1)) (consA (varE 5) nilA)))) (consA (tupE (consA (varE 4) (consA (un1 negD (cstE (.int 1))) (consA (varE 6) nilA)))) nilA))) nilA)) e2).wp (fun y e3 => y = encD (summedT [(t, 1, L), (k0, -1, N)]) ∧ wipeE e3 [5, 6] = [some (encQ p), some x1, some (encQ q), some pw, some (encK k0), none, none]) WE) WE := by
    intro L N hL hN2
    refine ⟨_, rfl, ?_⟩
    walk_at "kgg"
    refine ⟨rfl, ?_⟩
    walk_at "kgg"
    refine w_mono (sub_ok hp ht hL hN2 hn) fun d e hd => ⟨hd, rfl⟩
  refine w_mono (w_compZ [some (encQ p), some x1, some (encQ q), some pw, some (encK k0), none, none] [(.tuple [encD p.o, encD q.o], encD (summedT [(t, 1, p.o), (k0, -1, q.o)])), (.tuple [encD p.a, encD q.a], encD (summedT [(t, 1, p.a), (k0, -1, q.a)])), (.tuple [encD p.b, encD q.b], encD (summedT [(t, 1, p.b), (k0, -1, q.b)])), (.tuple [encD p.c, encD q.c], encD (summedT [(t, 1, p.c), (k0, -1, q.c)]))] _ hE ?_) fun ys e ⟨hy, _⟩ => hy
  refine List.forall_mem_cons.mpr ⟨one G.o Gq.o, List.forall_mem_cons.mpr ⟨one G.a Gq.a, List.forall_mem_cons.mpr ⟨one G.b Gq.b, List.forall_mem_cons.mpr ⟨one G.c Gq.c, fun _ z => nomatch z⟩⟩⟩⟩
theorem letter_ok {q : Q4} {n : Nat} (G : G4 n q) (hn : n + 2 ≤ 30) {l : Int} (hl : Lt l) : (f_by_letter [encQ q, .int l]).wp (fun d _ => d = encQ (letterT l q)) WE := by
  have f1 := (first_all G).1
  have s1 := (second_all G).1
  refine w_run ?_
  unfold F_by_letter
  rcases hl with rfl | rfl | rfl | rfl
  · walk_at "kgg"
    refine w_mono (first_ok G (by omega)) fun d e hd => ?_
    subst hd
    walk_at "kgg"
    rw [letterT_1]
  · walk_at "kgg"
    refine w_mono (first_ok G (by omega)) fun d e hd => ?_
    subst hd
    walk_at "kgg"
    refine w_mono (neg_tail (t := kX) (.inr rfl) iX G.mono f1 (by omega) rfl) fun ys e hy => ?_
    subst hy
    walk_at "kgg"
    rw [letterT_n1]
    rfl
  · walk_at "kgg"
    refine w_mono (second_ok G (by omega)) fun d e hd => ?_
    subst hd
    walk_at "kgg"
    rw [letterT_2]
  · walk_at "kgg"
    refine w_mono (second_ok G (by omega)) fun d e hd => ?_
    subst hd
    walk_at "kgg"
    refine w_mono (neg_tail (t := kY) (.inr rfl) iY G.mono s1 (by omega) rfl) fun ys e hy => ?_
    subst hy
    walk_at "kgg"
    rw [letterT_n2]
    rfl

set_option linter.all false
set_option maxRecDepth 100000
set_option maxHeartbeats 1000000
open DV PySem L2
open PyProof.Rows hiding St
theorem lex_inl (a b : Int) (l m : List (Int ⊕ List Nat)) : PyProof.Rows.lexLt PyProof.Rows.itemOrd ((.inl a :: l : List (Int ⊕ List Nat))) ((.inl b :: m : List (Int ⊕ List Nat))) = (decide (a < b) || (decide (a = b) && PyProof.Rows.lexLt PyProof.Rows.itemOrd l m)) := by
  simp only [PyProof.Rows.lexLt, PyProof.Rows.itemOrd, PyProof.Rows.itemLt]
  by_cases h : a < b
  · simp [h]
  · by_cases h2 : b < a
    · have : a ≠ b := by omega
      simp [h, h2, this]
    · have : a = b := by omega
      simp [h, h2, this]
theorem lex_enc (e f : Ky × Int) : PyProof.Rows.lexLt PyProof.Rows.itemOrd (PySem.W.keyToks (encE e)) (PySem.W.keyToks (encE f)) = elt e f := by
  show PyProof.Rows.lexLt PyProof.Rows.itemOrd ([.inl 1, .inl 1, .inl e.1.1, .inl 1, .inl e.1.2.1, .inl 1, .inl e.1.2.2, .inl 0, .inl 1, .inl e.2, .inl 0] : List (Int ⊕ List Nat)) ([.inl 1, .inl 1, .inl f.1.1, .inl 1, .inl f.1.2.1, .inl 1, .inl f.1.2.2, .inl 0, .inl 1, .inl f.2, .inl 0] : List (Int ⊕ List Nat)) = _
  simp only [lex_inl]
  have : PyProof.Rows.lexLt PyProof.Rows.itemOrd ([] : List (Int ⊕ List Nat)) [] = false := rfl
  rw [this]
  rw [Bool.eq_iff_iff]
  rw [elt_iff, klt_iff, ky_eq]
  simp
  omega
theorem dataLe_enc (e f : Ky × Int) : PySem.W.dataLe false id (encE e) (encE f) = ele e f := by
  show (!PyProof.Rows.lexLt PyProof.Rows.itemOrd (PySem.W.keyToks (encE f)) (PySem.W.keyToks (encE e))) = _
  rw [lex_enc]
  rfl
theorem sort_enc (L : Pl) : sortL (L.map encE) = (sortT L).map encE := by
  unfold sortL sortT
  rw [List.map_mergeSort]
  intro a _ b _
  exact (dataLe_enc a b).symm
theorem alike_enc (e f : Ky × Int) : PySem.W.alike (encE e) (encE f) = true := rfl
theorem alike_all (L : Pl) : alikeB (L.map encE) = true := by
  unfold alikeB
  rw [Bool.and_eq_true, List.all_eq_true, List.all_eq_true]
  refine ⟨fun x hx => ?_, fun x hx => ?_⟩
  · obtain ⟨e, _, rfl⟩ := List.mem_map.mp hx
    rw [List.all_eq_true]
    intro y hy
    obtain ⟨f, _, rfl⟩ := List.mem_map.mp hy
    rfl
  · obtain ⟨e, _, rfl⟩ := List.mem_map.mp hx
    rfl
theorem lay_all (L : Pl) : PyData.canLayAll0 (L.map encE) = true := by
  induction L with
  | nil => rfl
  | cons e r ih =>
    show (PyData.canLay0 (encE e) && PyData.canLayAll0 (r.map encE)) = true
    rw [ih]
    rfl
theorem lay_ints (L : Pl) : PyData.canLayAll0 ((L.map kvE).map (·.2)) = true := by
  induction L with
  | nil => rfl
  | cons e r ih =>
    show (PyData.canLay0 (.int e.2) && PyData.canLayAll0 ((r.map kvE).map (·.2))) = true
    rw [ih]
    rfl
theorem depth_all (L : Pl) : PyData.depthAll (L.map encE) ≤ 3 := by
  induction L with
  | nil => decide
  | cons e r ih =>
    have h : PyData.depthAll ((e :: r).map encE) = max (PyData.depth (encE e)) (PyData.depthAll (r.map encE)) := by
      simp [PyData.depthAll]
    rw [h]
    have h2 : PyData.depth (encE e) ≤ 3 := by
      simp [encE, encK, PyData.depth, PyData.depthAll]
    omega
theorem sortable_enc (L : Pl) : sortable (L.map encE) = true := by
  unfold sortable
  rw [Bool.or_eq_true]
  refine .inl (List.all_eq_true.mpr fun d hd => ?_)
  obtain ⟨e, _, rfl⟩ := List.mem_map.mp hd
  rfl
theorem sit_enc (L : Pl) : sitF (encD L) = some (.list ((sortT L).map encE)) := by
  show (if (alikeB ((L.map kvE).map DV.pairD) && PyData.canLayAll0 ((L.map kvE).map DV.pairD) && sortable ((L.map kvE).map DV.pairD)) = true ∧ PyData.depthAll ((L.map kvE).map DV.pairD) ≤ 60 ∧ PyData.canLayAll0 ((L.map kvE).map (·.2)) = true then some (PyData.list (sortL ((L.map kvE).map DV.pairD))) else none) = _
  have e : (L.map kvE).map DV.pairD = L.map encE := by rw [List.map_map]; rfl
  rw [e, if_pos, sort_enc]
  refine ⟨?_, Nat.le_trans (depth_all L) (by decide), lay_ints L⟩
  rw [alike_all, lay_all, sortable_enc]
  rfl

/-! ### words -/
theorem all_true {α : Type} (ds : List α) : allD (.list (ds.map fun _ => PyData.bool true)) = some (.bool true) := by
  have h : bolsOf (ds.map fun _ => PyData.bool true) = some (ds.map fun _ => true) := by
    induction ds with
    | nil => rfl
    | cons d r ih =>
      show (bolsOf (r.map fun _ => PyData.bool true)).map (true :: ·) = _
      rw [ih]
      rfl
  simp only [allD]
  rw [h]
  simp
theorem w_dsp1 {Q : PyData → DV.Env → Prop} {env : DV.Env} {fk fv : DV.Env → Rs PyData} (h : (fk env).wp (fun k e1 => (fv e1).wp (fun d e2 => ∃ r, dput (.dict [(.none, .none)]) k d = some r ∧ Q r e2) WE) WE) : (dsp1E fk fv env).wp Q WE := by
  unfold dsp1E
  rw [w_bind]
  refine w_mono h fun k e1 h => ?_
  rw [w_bind]
  refine w_mono h fun d e2 ⟨r, h1, h2⟩ => ?_
  rw [h1]
  exact h2
theorem w_putE {Q : PyData → DV.Env → Prop} {env : DV.Env} {l : Bool} {i : Nat} {g : PyData → List PyData → Option (PyData × PyData)} {fa : DV.Env → Rs (List PyData)} (h0 : tyE l i env = true) (h : (fa env).wp (fun ds e => ∃ d r d', e[i]? = some (some d) ∧ g d ds = some (r, d') ∧ Q r (e.set i (some d'))) WE) : (putE l i g fa env).wp Q WE := by
  unfold putE
  rw [if_pos h0, w_bind]
  refine w_mono h fun ds e ⟨d, r, d', h1, h2, h3⟩ => ?_
  rw [h1]
  simp only
  rw [h2]
  exact h3
theorem word_ok {n : Int} {w : List Int} (h : ∀ l ∈ w, 0 < (if l < 0 then -l else l) ∧ (if l < 0 then -l else l) ≤ n) (hl : w.length ≤ lim) : (f_is_word_in [.int n, encW w]).wp (fun d _ => d = .bool true) WE := by
  refine w_run ?_
  unfold F_is_word_in encW
  walk_at "kgg"
  refine ⟨by rw [List.length_map]; exact hl, ?_⟩
  refine w_mono (w_compM (fun _ => .bool true) [some (.int n), some (.tuple (w.map PyData.int)), none] _ _ rfl fun d hd => ?_) fun ys e ⟨hy, _⟩ => ?_
  · obtain ⟨l, hw, rfl⟩ := List.mem_map.mp hd
    obtain ⟨h1, h2⟩ := h l hw
    refine ⟨_, rfl, rfl, ?_⟩
    walk_at "kgg"
    refine ⟨_, rfl, w_spt (decide_eq_true h1) ?_⟩
    walk_at "kgg"
    exact ⟨congrArg PyData.bool (decide_eq_true h2), rfl⟩
  · subst hy
    walk_at "kgg"
    exact ⟨_, all_true _, rfl⟩

theorem word2_ok {w : List Int} (h : LtAll w) (hl : w.length ≤ 12) : (f_is_word_in [.int 2, encW w]).wp (fun d _ => d = .bool true) WE := by
  refine word_ok (fun l hm => ?_) (Nat.le_trans hl (by decide))
  have := h l hm
  rcases this with rfl | rfl | rfl | rfl <;> decide
/-- the stack of what is kept -/
def stk (st : List Int) : List PyData := (st.map PyData.int).reverse
theorem stk_cons (t : Int) (st : List Int) : stk (t :: st) = stk st ++ [.int t] := by simp [stk]
theorem stk_last (t : Int) (st : List Int) : ixA (.list (stk (t :: st))) (.int (-1)) = some (.int t) := by
  rw [stk_cons]
  show atI (stk st ++ [.int t]) (-1) = _
  unfold atI ixN
  rw [if_neg (by omega), if_pos (by simp; omega)]
  have e : (-1 + ((stk st ++ [PyData.int t]).length : Int)).toNat = (stk st).length := by simp; omega
  rw [e]
  simp
theorem stk_pop (t : Int) (st : List Int) : popD (.list (stk (t :: st))) [] = some (.int t, .list (stk st)) := by
  rw [stk_cons]
  simp [popD]
theorem stk_app (l : Int) (st : List Int) (h : st.length < lim) : appD (.list (stk st)) [.int l] = some (.none, .list (stk (l :: st))) := by
  rw [stk_cons]
  show (if (stk st).length < lim then some (PyData.none, PyData.list (stk st ++ [.int l])) else none) = _
  rw [if_pos (by unfold stk; rw [List.length_reverse, List.length_map]; exact h)]
def RI (w : List Int) (ds : List PyData) (e : DV.Env) : Prop := ∃ (st rest : List Int) (y2 : Option PyData), ds = rest.map PyData.int ∧ e = [some (encW w), some (.list (stk st)), y2] ∧ st.length + rest.length ≤ w.length ∧ red st rest = red [] w
theorem red_app {w st rest : List Int} {l : Int} (hl : w.length < lim) (h2 : st.length + (rest.length + 1) ≤ w.length) (h3 : red (l :: st) rest = red [] w) :
    (putE true 1 appD (consA (varE 2) nilA) [some (encW w), some (.list (stk st)), some (.int l)]).wp (fun _ e => RI w (rest.map PyData.int) e) WE := by
  refine w_putE rfl ?_
  walk_at "kgg"
  refine ⟨_, _, _, rfl, stk_app l st (by omega), ?_⟩
  exact ⟨l :: st, rest, _, rfl, rfl, by simp only [List.length_cons]; omega, h3⟩
theorem reduced_ok {w : List Int} (hl : w.length < lim) : (f_reduced_in [encW w]).wp (fun d _ => d = encW (red [] w)) WE := by
  refine w_run ?_
  unfold F_reduced_in
  walk_at "kgg"
  refine w_loop (RI w) ?_ ?_ _ _ ⟨[], w, _, rfl, rfl, by simp, rfl⟩
  · rintro e ⟨st, rest, y2, h1, rfl, h2, h3⟩
    cases rest with
    | cons _ _ => cases h1
    | nil =>
      have h3' : st.reverse = red [] w := by
        rw [← h3]
        cases st <;> rfl
      walk_at "kgg"
      show PyData.tuple (stk st) = encW (red [] w)
      rw [← h3']
      unfold stk encW
      rw [List.map_reverse]
  · rintro d ds e ⟨st, rest, y2, h1, rfl, h2, h3⟩
    cases rest with
    | nil => cases h1
    | cons l rest =>
      have h1' : d :: ds = .int l :: rest.map PyData.int := h1
      injection h1' with e1 e2
      subst e1 e2
      simp only [List.length_cons] at h2
      refine ⟨_, rfl, ?_⟩
      cases st with
      | nil =>
        walk_at "kgg"
        exact red_app (st := []) hl h2 h3
      | cons t st =>
        walk_at "kgg"
        refine w_spt (by rw [stk_cons]; simp) ?_
        walk_at "kgg"
        refine ⟨_, stk_last t st, ?_⟩
        walk_at "kgg"
        have h3' : (if t = -l then red st rest else red (l :: t :: st) rest) = red [] w := h3
        by_cases z : t = -l
        · rw [if_pos z] at h3'
          refine w_spt (by simp [PyData.eqv, z]) ?_
          walk_at "kgg"
          refine w_putE rfl ?_
          walk_at "kgg"
          refine ⟨_, _, _, rfl, stk_pop t st, ?_⟩
          exact ⟨st, rest, _, rfl, rfl, by simp only [List.length_cons] at h2; omega, h3'⟩
        · rw [if_neg z] at h3'
          refine w_spf (by simp [PyData.eqv, z]) ?_
          walk_at "kgg"
          exact red_app (st := t :: st) hl h2 h3'

/-! ### the trace -/
theorem w_allq {Q : Q4} {n : Nat} (G : G4 n Q) (hn : n + 1 ≤ 30) : (f_summed [.list [.tuple [encK k0, .int 2, encD Q.o], .tuple [.dict [(.none, encK kX)], .int 1, encD Q.a], .tuple [.dict [(.none, encK kY)], .int 1, encD Q.b], .tuple [.dict [(.none, encK kZ)], .int 1, encD Q.c]]]).wp (fun d _ => d = encD (totT Q)) WE :=
  summed_ok (ps := [(k0, 2, Q.o), (kX, 1, Q.a), (kY, 1, Q.b), (kZ, 1, Q.c)]) (.cons (.inl rfl) (.cons (.inr rfl) (.cons (.inr rfl) (.cons (.inr rfl) .nil)))) (hC i0 sm2 G.o (hC iX sm1 G.a (hC iY sm1 G.b (hC iZ sm1 G.c hN)))) hn
def TI (w : List Int) (ds : List PyData) (e : DV.Env) : Prop := ∃ (q : Q4) (n : Nat) (rest : List Int) (y2 : Option PyData), ds = rest.map PyData.int ∧ e = [some (encW w), some (encQ q), y2, none, none] ∧ G4 n q ∧ n + 2 * rest.length ≤ 24 ∧ LtAll rest ∧ runT rest q = runT (red [] w) startT
theorem trace_ok {w : List Int} (h : LtAll w) (hl : w.length ≤ 12) : (f_trace_of [encW w]).wp (fun d _ => d = encP (polyT w)) WE := by
  have hr := (run_red w [] h (fun _ z => nomatch z)).2
  have hn : (red [] w).length ≤ 12 := Nat.le_trans (red_sub w []) (by simpa using hl)
  refine w_run ?_
  unfold F_trace_of
  walk_at "kgg"
  refine w_mono (word2_ok h hl) fun d e hd => ?_
  subst hd
  walk_at "kgg"
  refine w_dsp1 ?_
  walk_at "kgg"
  refine w_mono (reduced_ok (Nat.lt_of_le_of_lt hl (by decide))) fun d e hd => ?_
  subst hd
  walk_at "kgg"
  refine w_loop (TI w) ?_ ?_ _ _ ⟨startT, 0, red [] w, _, rfl, rfl, start_all.1, by omega, hr, rfl⟩
  · rintro e ⟨q, n, rest, y2, h1, rfl, h2, h3, h4, h5⟩
    cases rest with
    | cons _ _ => cases h1
    | nil =>
      have h5' : q = runT (red [] w) startT := h5
      unfold encQ
      walk_at "kgg"
      refine w_mono (w_allq h2 (by simp at h3; omega)) fun d e hd => ?_
      subst hd
      walk_at "kgg"
      refine ⟨_, sit_enc _, ?_⟩
      walk_at "kgg"
      show encP (sortT (totT q)) = encP (polyT w)
      rw [h5']
      rfl
  · rintro d ds e ⟨q, n, rest, y2, h1, rfl, h2, h3, h4, h5⟩
    cases rest with
    | nil => cases h1
    | cons l rest =>
      have h1' : d :: ds = .int l :: rest.map PyData.int := h1
      injection h1' with e1 e2
      subst e1 e2
      simp only [List.length_cons] at h3
      have hl := h4 l (List.mem_cons_self ..)
      refine ⟨_, rfl, ?_⟩
      walk_at "kgg"
      refine w_mono (letter_ok h2 (by omega) hl) fun d e hd => ?_
      subst hd
      walk_at "kgg"
      exact ⟨letterT l q, n + 2, rest, _, rfl, rfl, (letter_all h2 hl).1, by omega, fun x hx => h4 x (List.mem_cons_of_mem _ hx), h5⟩

set_option linter.all false
set_option maxRecDepth 100000
set_option maxHeartbeats 1000000
open DV PySem L2
open PyProof.Rows hiding St
theorem int_ok (n : Int) : (f_is_integer [.int n]).wp (fun d _ => d = .bool true) WE := by
  have h : f_is_integer [.int n] = .ok (.bool true) [some (.int n)] := rfl
  rw [h]
  exact rfl
theorem chk_ok (n : Int) : (f_check_integer [.int n]).wp (fun _ _ => True) WE := by
  have h : f_check_integer [.int n] = .ok .none [some (.int n)] := rfl
  rw [h]
  exact trivial
theorem ints_ok (k : Ky) : (f_are_integers [encK k, .int 3]).wp (fun d _ => d = .bool true) WE := by
  refine w_run ?_
  unfold F_are_integers encK
  walk_at "kgg"
  refine w_mono (w_compM (fun _ => .bool true) [some (.tuple [.int k.1, .int k.2.1, .int k.2.2]), some (.int 3), none] _ _ rfl fun d hd => ?_) fun ys e ⟨hy, _⟩ => ?_
  · have : ∃ n, d = .int n := by
      simp only [List.mem_cons, List.not_mem_nil, or_false] at hd
      rcases hd with rfl | rfl | rfl <;> exact ⟨_, rfl⟩
    obtain ⟨n, rfl⟩ := this
    refine ⟨_, rfl, rfl, ?_⟩
    walk_at "kgg"
    exact w_mono (int_ok n) fun d e h => ⟨h, rfl⟩
  · subst hy
    walk_at "kgg"
    rfl
theorem min_ok {n : Nat} {k : Ky} (h : inB n k) : ∃ m : Int, minF (encK k) = some (.int m) ∧ 0 ≤ m := by
  refine ⟨[k.2.1, k.2.2].foldl min k.1, ?_, ?_⟩
  · have c : (alikeB [PyData.int k.1, .int k.2.1, .int k.2.2] && PyData.canLayAll0 [PyData.int k.1, .int k.2.1, .int k.2.2]) = true ∧ PyData.depthAll [PyData.int k.1, .int k.2.1, .int k.2.2] ≤ 60 := by
      refine ⟨rfl, ?_⟩
      simp [PyData.depthAll, PyData.depth]
    show (if (alikeB [PyData.int k.1, .int k.2.1, .int k.2.2] && PyData.canLayAll0 [PyData.int k.1, .int k.2.1, .int k.2.2]) = true ∧ PyData.depthAll [PyData.int k.1, .int k.2.1, .int k.2.2] ≤ 60 then some (PySem.W.minD (.int k.1) [.int k.2.1, .int k.2.2]) else none) = _
    rw [if_pos c]
    exact congrArg some (PySem.W.minD_ints k.1 [k.2.1, k.2.2])
  · obtain ⟨⟨h1, _⟩, ⟨h2, _⟩, h3, _⟩ := h
    simp only [List.foldl]
    omega
theorem cut1 {α : Type} (xs : List α) : cutG xs (some 1) none = xs.drop 1 := by
  unfold cutG HT.sIx
  simp only
  rw [if_neg (by omega)]
  cases xs with
  | nil => rfl
  | cons x r =>
    have e : min (Int.toNat 1) (x :: r).length = 1 := by simp
    rw [e]
    simp
theorem lt_enc (e f : Ky × Int) : ltA (encK e.1) (encK f.1) = some (.bool (klt e.1 f.1)) := by
  show some (PyData.bool (HT.lexLt [e.1.1, e.1.2.1, e.1.2.2] [f.1.1, f.1.2.1, f.1.2.2])) = _
  have : HT.lexLt [e.1.1, e.1.2.1, e.1.2.2] [f.1.1, f.1.2.1, f.1.2.2] = klt e.1 f.1 := by
    rw [Bool.eq_iff_iff, klt_iff]
    simp only [HT.lexLt]
    split
    · split
      · split
        · simp; omega
        · simp; omega
      · simp; omega
    · simp; omega
  rw [this]
/-- ascending, looked at pair by pair -/
def ascB (L : Pl) : Bool := (L.zip (L.drop 1)).all fun p => klt p.1.1 p.2.1
theorem all_bools {α : Type} (φ : α → Bool) (ds : List α) : allD (.list (ds.map fun d => PyData.bool (φ d))) = some (.bool (ds.all φ)) := by
  have h : bolsOf (ds.map fun d => PyData.bool (φ d)) = some (ds.map φ) := by
    induction ds with
    | nil => rfl
    | cons d r ih =>
      show (bolsOf (r.map fun d => PyData.bool (φ d))).map (φ d :: ·) = _
      rw [ih]
      rfl
  simp only [allD]
  rw [h]
  simp [List.all_map]
def PI (L : Pl) (ds : List PyData) (e : DV.Env) : Prop := ∃ (r : Pl) (y1 : Option PyData), ds = r.map encE ∧ e = [some (encP L), y1, none, none] ∧ ∀ x ∈ r, x ∈ L
theorem poly_gen {n : Nat} {L : Pl} (hb : Bx n L) (hz : ∀ e ∈ L, e.2 ≠ 0) (hl : L.length ≤ lim) : (f_is_polynomial [encP L]).wp (fun d _ => d = .bool (ascB L)) WE := by
  refine w_run ?_
  unfold F_is_polynomial
  walk_at "kgg"
  refine w_loop (PI L) ?_ ?_ _ _ ⟨L, _, rfl, rfl, fun x h => h⟩
  · rintro e ⟨r, y1, _, rfl, _⟩
    unfold encP
    walk_at "kgg"
    refine ⟨1, rfl, ?_⟩
    walk_at "kgg"
    rw [cut1]
    refine ⟨?_, ?_⟩
    · simp only [List.length_map, List.length_zip, List.length_drop]
      have : lim = 16777216 := rfl
      omega
    have items : (((L.map encE).zip ((L.map encE).drop 1)).map fun p => PyData.tuple [p.1, p.2]) = (((L.zip (L.drop 1)).map fun p => (PyData.tuple [encE p.1, encE p.2], PyData.bool (klt p.1.1 p.2.1)))).map (·.1) := by
      rw [← List.map_drop, List.zip_map, List.map_map, List.map_map]
      rfl
    rw [items]
    refine w_mono (w_compZ [some (.tuple (L.map encE)), y1, none, none] _ _ rfl fun z hz' => ?_) fun ys e ⟨hy, _⟩ => ?_
    · obtain ⟨p, hp, rfl⟩ := List.mem_map.mp hz'
      refine ⟨_, rfl, ?_⟩
      unfold encE
      walk_at "kgg"
      refine ⟨rfl, ?_⟩
      walk_at "kgg"
      exact ⟨Option.some.inj (lt_enc p.1 p.2), rfl⟩
    · subst hy
      walk_at "kgg"
      rw [List.map_map]
      refine ⟨_, all_bools (fun p : (Ky × Int) × (Ky × Int) => klt p.1.1 p.2.1) (L.zip (L.drop 1)), rfl⟩
  · rintro d ds e ⟨r, y1, h1, rfl, h2⟩
    cases r with
    | nil => cases h1
    | cons k r =>
      have h1' : d :: ds = encE k :: r.map encE := h1
      injection h1' with e1 e2
      subst e1 e2
      have hk := h2 k (List.mem_cons_self ..)
      obtain ⟨m, hm, hm0⟩ := min_ok (hb k hk)
      refine ⟨_, rfl, ?_⟩
      have key : (encE k) = .tuple [encK k.1, .int k.2] := rfl
      rw [key]
      walk_at "kgg"
      refine w_mono (ints_ok k.1) fun d e hd => ?_
      subst hd
      walk_at "kgg"
      refine w_mono (int_ok k.2) fun d e hd => ?_
      subst hd
      walk_at "kgg"
      have hm' : PySem.W.minD (.int k.1.1) [.int k.1.2.1, .int k.1.2.2] = .int m := by
        have q := hm
        unfold encK at q
        simp only [minF] at q
        split at q
        · exact Option.some.inj q
        · cases q
      rw [hm']
      walk_at "kgg"
      refine w_spf (decide_eq_false (by omega)) ?_
      walk_at "kgg"
      refine w_spf (by simp [PyData.eqv, hz k hk]) ?_
      walk_at "kgg"
      exact ⟨r, _, rfl, rfl, fun x hx => h2 x (List.mem_cons_of_mem _ hx)⟩

set_option linter.all false
set_option maxRecDepth 100000
set_option maxHeartbeats 1000000
open DV PySem L2
open PyProof.Rows hiding St
theorem asc_true : ∀ {L : Pl}, Asc L → ascB L = true
  | [], _ => rfl
  | [_], _ => rfl
  | x :: y :: r, h => by
    obtain ⟨h1, h2⟩ := List.pairwise_cons.mp h
    show (klt x.1 y.1 && ascB (y :: r)) = true
    rw [h1 y (List.mem_cons_self ..), asc_true h2]
    rfl
theorem asc_row : ∀ {L : Pl} {n : Nat}, L ≠ [] → Bx n L → ascB (L ++ [(k0, 2)]) = false
  | [], _, h, _ => absurd rfl h
  | [x], n, _, h => by
    show (klt x.1 k0 && true) = false
    have hx := h x (List.mem_cons_self ..)
    have : ¬ klt x.1 k0 = true := by
      rw [klt_iff]
      obtain ⟨⟨a, _⟩, ⟨b, _⟩, c, _⟩ := hx
      simp only [k0]
      omega
    rw [Bool.and_true]
    simpa using this
  | x :: y :: r, n, _, h => by
    show (klt x.1 y.1 && ascB (y :: r ++ [(k0, 2)])) = false
    rw [asc_row (L := y :: r) (by simp) fun e he => h e (List.mem_cons_of_mem _ he), Bool.and_false]
theorem asc_rev {L : Pl} (h : Asc L) (hl : 1 < L.length) : ascB L.reverse = false := by
  have h' : L.reverse.Pairwise fun e f => klt f.1 e.1 = true := List.pairwise_reverse.mpr h
  have hl' : 1 < L.reverse.length := by rw [List.length_reverse]; exact hl
  generalize L.reverse = N at h' hl'
  match N, h', hl' with
  | [], _, hl' => simp at hl'
  | [_], _, hl' => simp at hl'
  | x :: y :: r, h', _ =>
    obtain ⟨h1, _⟩ := List.pairwise_cons.mp h'
    have q := h1 y (List.mem_cons_self ..)
    have : ¬ klt x.1 y.1 = true := fun z => klt_irr (klt_trans z q)
    show (klt x.1 y.1 && ascB (y :: r)) = false
    have e : klt x.1 y.1 = false := by simpa using this
    rw [e]
    rfl
/-! ### values -/
theorem pow_loop {e0 e1 e2 e3 e5 e6 e9 : Option PyData} {v num p : Int} (hv : sm v) (hp : 0 ≤ p ∧ p ≤ 25) {QF : Fl → DV.Env → Prop} (q : ∀ y9, QF .nx [e0, e1, e2, e3, some (.int v), e5, e6, some (.int (num * v ^ p.toNat)), some (.int p), y9]) :
    (forS (rng1 (varE 8)) (nameG 9) (asgS 7 (bin2 mulI (varE 7) (varE 4))) [e0, e1, e2, e3, some (.int v), e5, e6, some (.int num), some (.int p), e9]).wp QF WE := by
  walk_at "kgg"
  refine ⟨p, rfl, ⟨by omega, by omega⟩, ?_⟩
  refine w_loop (fun ds e => ∃ (m : Int) (y9 : Option PyData), e = [e0, e1, e2, e3, some (.int v), e5, e6, some (.int m), some (.int p), y9] ∧ m * v ^ ds.length = num * v ^ p.toNat) ?_ ?_ _ _ ⟨num, e9, rfl, by rw [rangeL_len, Int.sub_zero]⟩
  · rintro e ⟨m, y9, rfl, h⟩
    have h' : m = num * v ^ p.toNat := by simpa using h
    rw [h']
    exact q _
  · rintro d ds e ⟨m, y9, rfl, h⟩
    refine ⟨_, rfl, ?_⟩
    walk_at "kgg"
    refine ⟨_, mulI_r hv, ?_⟩
    walk_at "kgg"
    refine ⟨m * v, _, rfl, ?_⟩
    rw [← h, List.length_cons, Int.pow_succ]
    grind
theorem zip_pow (x y z : Int) (k : Ky) : zipD [.tuple [.int x, .int y, .int z], encK k] = some [.tuple [.int x, .int k.1], .tuple [.int y, .int k.2.1], .tuple [.int z, .int k.2.2]] := rfl
theorem mono_loop {e0 e5 e4 e8 e9 : Option PyData} {x y z num : Int} {k : Ky} (hx : sm x) (hy : sm y) (hz : sm z) (hk : inB 25 k) {QF : Fl → DV.Env → Prop} (q : ∀ y4 y8 y9, QF .nx [e0, some (.int x), some (.int y), some (.int z), y4, e5, some (encK k), some (.int (num * mono x y z k)), y8, y9]) :
    (forS (zipE (consA (tupE (consA (varE 1) (consA (varE 2) (consA (varE 3) nilA)))) (consA (varE 6) nilA))) (tupG (consG (nameG 4) (consG (nameG 8) (nilG)))) (forS (rng1 (varE 8)) (nameG 9) (asgS 7 (bin2 mulI (varE 7) (varE 4)))) [e0, some (.int x), some (.int y), some (.int z), e4, e5, some (encK k), some (.int num), e8, e9]).wp QF WE := by
  obtain ⟨⟨a1, a2⟩, ⟨b1, b2⟩, c1, c2⟩ := hk
  refine w_for (w_zip ?_)
  repeat' walk_at "kg1"
  refine ⟨_, zip_pow x y z k, ?_⟩
  show (loopS _ _ _ _).wp _ _
  unfold loopS
  show ((forS _ _ _ _).bind _).wp _ _
  rw [w_bind]
  refine pow_loop hx ⟨a1, a2⟩ fun y9 => ?_
  show (loopS _ _ _ _).wp _ _
  unfold loopS
  show ((forS _ _ _ _).bind _).wp _ _
  rw [w_bind]
  refine pow_loop hy ⟨b1, b2⟩ fun y9 => ?_
  show (loopS _ _ _ _).wp _ _
  unfold loopS
  show ((forS _ _ _ _).bind _).wp _ _
  rw [w_bind]
  refine pow_loop hz ⟨c1, c2⟩ fun y9 => ?_
  show QF .nx _
  have e : num * x ^ k.1.toNat * y ^ k.2.1.toNat * z ^ k.2.2.toNat = num * mono x y z k := by
    unfold mono
    grind
  rw [e]
  exact q _ _ _
def VI (L : Pl) (x y z : Int) (ds : List PyData) (e : DV.Env) : Prop := ∃ (r : Pl) (acc : Int) (y4 y6 y7 y8 y9 : Option PyData), ds = r.map encE ∧ e = [some (encP L), some (.int x), some (.int y), some (.int z), y4, some (.int acc), y6, y7, y8, y9] ∧ (∀ t ∈ r, t ∈ L) ∧ acc + vl x y z r = vl x y z L
theorem value_ok {L : Pl} {x y z : Int} (ha : Asc L) (hb : Bx 25 L) (hz : ∀ e ∈ L, e.2 ≠ 0) (hl : L.length ≤ lim) (sx : sm x) (sy : sm y) (sz : sm z) : (f_value_of [encP L, .int x, .int y, .int z]).wp (fun d _ => d = .int (vl x y z L)) WE := by
  refine w_run ?_
  unfold F_value_of
  walk_at "kgg"
  refine w_mono (poly_gen hb hz hl) fun d e hd => ?_
  rw [asc_true ha] at hd
  subst hd
  walk_at "kgg"
  refine w_loop (fun ds e => (∀ d ∈ ds, ∃ n : Int, d = .int n) ∧ ∃ y4 : Option PyData, e = [some (encP L), some (.int x), some (.int y), some (.int z), y4, none, none, none, none, none]) ?_ ?_ _ _ ⟨?_, _, rfl⟩
  · rintro e ⟨_, y4, rfl⟩
    unfold encP
    walk_at "kgg"
    refine w_loop (VI L x y z) ?_ ?_ _ _ ⟨L, 0, _, _, _, _, _, rfl, rfl, fun t h => h, by omega⟩
    · rintro e ⟨r, acc, y4, y6, y7, y8, y9, h1, rfl, _, h2⟩
      cases r with
      | cons _ _ => cases h1
      | nil =>
        walk_at "kgg"
        show PyData.int acc = .int (vl x y z L)
        rw [← h2]
        simp [vl, M]
    · rintro d ds e ⟨r, acc, y4, y6, y7, y8, y9, h1, rfl, h2, h3⟩
      cases r with
      | nil => cases h1
      | cons k r =>
        have h1' : d :: ds = encE k :: r.map encE := h1
        injection h1' with e1 e2
        subst e1 e2
        refine ⟨_, rfl, ?_⟩
        refine w_seq ?_
        refine mono_loop sx sy sz (hb k (h2 k (List.mem_cons_self ..))) fun y4 y8 y9 => ?_
        walk_at "kgg"
        refine ⟨r, acc + k.2 * mono x y z k.1, _, _, _, _, _, rfl, rfl, fun t ht => h2 t (List.mem_cons_of_mem _ ht), ?_⟩
        rw [← h3]
        simp only [vl, M]
        omega
  · rintro d ds e ⟨h1, y4, rfl⟩
    obtain ⟨n, rfl⟩ := h1 d (List.mem_cons_self ..)
    refine ⟨_, rfl, ?_⟩
    walk_at "kgg"
    refine w_mono (chk_ok n) fun d e _ => ?_
    exact ⟨fun d hd => h1 d (List.mem_cons_of_mem _ hd), _, rfl⟩
  · intro d hd
    simp only [List.mem_cons, List.not_mem_nil, or_false] at hd
    rcases hd with rfl | rfl | rfl <;> exact ⟨_, rfl⟩

set_option linter.all false
set_option maxRecDepth 100000
set_option maxHeartbeats 1000000
open DV PySem L2
open PyProof.Rows hiding St
/-! ### texts of values -/
abbrev oTx (s : Str) : Prop := PyData.strOk s = true
theorem oTx_of (s : String) : oTx (Str.ofString s) := by
  rw [Str.ofString_eq_toList]
  unfold oTx PyData.strOk
  rw [Array.all_eq_true_iff_forall_mem]
  intro c hc
  simp only [List.mem_toArray, List.mem_map] at hc
  obtain ⟨ch, _, rfl⟩ := hc
  have h := ch.valid
  have e : ch.toNat = ch.val.toNat := rfl
  rw [decide_eq_true_eq, e]
  rcases h with h | ⟨_, h⟩
  · exact Nat.lt_trans h (by decide)
  · exact h
theorem oTx_app {a b : Str} (h1 : oTx a) (h2 : oTx b) : oTx (a ++ b) := by
  show (a.cps ++ b.cps).all _ = true
  rw [Array.all_append]
  unfold oTx PyData.strOk at h1 h2
  rw [h1, h2]
  rfl
theorem oTx_join {sep : Str} (hs : oTx sep) : ∀ {ts : List Str}, (∀ t ∈ ts, oTx t) → oTx (Str.join sep ts)
  | [], _ => oTx_of ""
  | [x], h => h x (List.mem_cons_self ..)
  | x :: y :: r, h => oTx_app (oTx_app (h x (List.mem_cons_self ..)) hs) (oTx_join hs fun t ht => h t (List.mem_cons_of_mem _ ht))
theorem oTx_tup {ts : List Str} (h : ∀ t ∈ ts, oTx t) : oTx (tupleText ts) := by
  unfold tupleText
  refine oTx_app (oTx_app (oTx_of _) (oTx_join (oTx_of _) h)) ?_
  split <;> exact oTx_of _
theorem oTx_int (i : Int) : oTx (PyData.int i).shown := by
  rw [PyData.shown_int]
  exact oTx_of _
theorem oTx_tuple {xs : List PyData} (h : ∀ x ∈ xs, oTx x.shown) : oTx (PyData.tuple xs).shown := by
  have e : (PyData.tuple xs).shown = tupleText (PyData.shownAll xs) := by simp only [PyData.shown]
  rw [e]
  refine oTx_tup fun t ht => ?_
  induction xs with
  | nil => simp [PyData.shownAll] at ht
  | cons x r ih =>
    rw [PyData.shownAll_cons] at ht
    rcases List.mem_cons.mp ht with q | q
    · rw [q]
      exact h x (List.mem_cons_self ..)
    · exact ih (fun y hy => h y (List.mem_cons_of_mem _ hy)) (by simp only [PyData.shown]) q
theorem oTx_E (e : Ky × Int) : oTx (encE e).shown := by
  refine oTx_tuple fun x hx => ?_
  simp only [List.mem_cons, List.not_mem_nil, or_false] at hx
  rcases hx with rfl | rfl
  · refine oTx_tuple fun y hy => ?_
    simp only [List.mem_cons, List.not_mem_nil, or_false] at hy
    rcases hy with rfl | rfl | rfl <;> exact oTx_int _
  · exact oTx_int _
theorem oTx_P (L : Pl) : oTx (encP L).shown := oTx_tuple fun x hx => by
  obtain ⟨e, _, rfl⟩ := List.mem_map.mp hx
  exact oTx_E e
theorem ne_same {s : Str} (h : oTx s) : neD (.str s) (.str s) = some (.bool false) := by
  have h' : PyData.strOk s = true := h
  simp [neD, SeqAt.shaped, PyData.canLay0, PyData.depth, PyData.eqv, h']
theorem log_lt {i : Int} {n : Nat} (hn : 0 < n) (h : i.natAbs < 2 ^ n) : i.natAbs.log2 < n := by
  by_cases z : i.natAbs = 0
  · rw [z]
    simpa using hn
  · exact (Nat.log2_lt z).mpr h
theorem repr_int {v : Int} (h : v.natAbs < 10 ^ 60) : reprF (.int v) = some (.str (PyData.int v).shown) := by
  unfold reprF
  refine if_pos ⟨rfl, ?_, ?_, by simp [PyData.depth]⟩
  · have : v.natAbs.log2 < 1920 := Nat.lt_trans (log_lt (n := 200) (by decide) (Nat.lt_trans h (by decide))) (by decide)
    simpa [PyData.showable] using this
  · have e := int_text_length_le10 (k := 60) (by decide) h
    have e2 : (PyData.int v).shown.length ≤ 61 := by
      show (Str.ofString (toString v)).length ≤ 61
      rw [PySem.ofString_length]
      exact e
    have : lim = 16777216 := rfl
    omega
theorem wt_int {i : Int} {n : Nat} (hn : 0 < n) (h : i.natAbs < 2 ^ n) : PyData.weight (.int i) ≤ n := by
  have := log_lt hn h
  simp only [PyData.weight]
  split <;> omega
theorem wt_E {e : Ky × Int} (hb : inB 25 e.1) (hs : lies (5 ^ 13) e.2) : PyData.weight (encE e) ≤ 51 := by
  obtain ⟨⟨a1, a2⟩, ⟨b1, b2⟩, c1, c2⟩ := hb
  obtain ⟨d1, d2⟩ := hs
  have q1 := wt_int (i := e.1.1) (n := 5) (by decide) (by omega)
  have q2 := wt_int (i := e.1.2.1) (n := 5) (by decide) (by omega)
  have q3 := wt_int (i := e.1.2.2) (n := 5) (by decide) (by omega)
  have q4 := wt_int (i := e.2) (n := 31) (by decide) (by
    have : (5 : Int) ^ 13 = 1220703125 := by decide
    rw [this] at d1 d2
    have : (2 : Nat) ^ 31 = 2147483648 := by decide
    omega)
  have h : PyData.weight (encE e) = (PyData.weight (.int e.1.1) + 1 + (PyData.weight (.int e.1.2.1) + 1 + (PyData.weight (.int e.1.2.2) + 1 + 0))) + 1 + (PyData.weight (.int e.2) + 1 + 0) := by
    simp only [encE, encK, PyData.weight, PyData.weightAll]
  omega
theorem wt_all {r : Pl} (hb : Bx 25 r) (hs : ∀ e ∈ r, lies (5 ^ 13) e.2) : PyData.weightAll (r.map encE) ≤ 52 * r.length := by
  induction r with
  | nil => simp [PyData.weightAll]
  | cons e r ih =>
    have h1 := wt_E (hb e (List.mem_cons_self ..)) (hs e (List.mem_cons_self ..))
    have h2 := ih (fun x hx => hb x (List.mem_cons_of_mem _ hx)) fun x hx => hs x (List.mem_cons_of_mem _ hx)
    simp only [List.map_cons, PyData.weightAll, List.length_cons]
    omega
theorem short_all {r : Pl} (hb : Bx 25 r) (hs : ∀ e ∈ r, lies (5 ^ 13) e.2) : PyData.intsShortAll 13 (r.map encE) = true ∧ PyData.showableAll (r.map encE) = true := by
  induction r with
  | nil => exact ⟨rfl, rfl⟩
  | cons e r ih =>
    obtain ⟨⟨a1, a2⟩, ⟨b1, b2⟩, c1, c2⟩ := hb e (List.mem_cons_self ..)
    obtain ⟨d1, d2⟩ := hs e (List.mem_cons_self ..)
    have h5 : (5 : Int) ^ 13 = 1220703125 := by decide
    rw [h5] at d1 d2
    have h10 : (10 : Nat) ^ 12 = 1000000000000 := by decide
    have h31 : (2 : Nat) ^ 31 = 2147483648 := by decide
    obtain ⟨i1, i2⟩ := ih (fun x hx => hb x (List.mem_cons_of_mem _ hx)) fun x hx => hs x (List.mem_cons_of_mem _ hx)
    have s : ∀ i : Int, i.natAbs < 2 ^ 31 → PyData.intsShort 13 (.int i) = true ∧ PyData.showable (.int i) = true := by
      intro i hi
      refine ⟨?_, ?_⟩
      · simp only [PyData.intsShort, decide_eq_true_eq]
        exact PyData.shown_int_le (by omega)
      · simp only [PyData.showable, decide_eq_true_eq]
        exact Nat.lt_trans (log_lt (n := 31) (by decide) hi) (by decide)
    obtain ⟨p1, p2⟩ := s e.1.1 (by omega)
    obtain ⟨p3, p4⟩ := s e.1.2.1 (by omega)
    obtain ⟨p5, p6⟩ := s e.1.2.2 (by omega)
    obtain ⟨p7, p8⟩ := s e.2 (by omega)
    constructor
    · simp only [List.map_cons, PyData.intsShortAll, i1, encE, encK, PyData.intsShort, Bool.and_true] at p1 p3 p5 p7 ⊢
      simp [p1, p3, p5, p7]
    · simp only [List.map_cons, PyData.showableAll, i2, encE, encK, PyData.showable, Bool.and_true] at p2 p4 p6 p8 ⊢
      simp only [p2, p4, p6, p8]
      rfl
theorem repr_poly {L : Pl} (hb : Bx 25 L) (hs : ∀ e ∈ L, lies (5 ^ 13) e.2) (hl : L.length ≤ 26 * (26 * 26)) : reprF (encP L) = some (.str (encP L).shown) := by
  obtain ⟨h1, h2⟩ := short_all hb hs
  have lay : PyData.canLay0 (encP L) = true := by
    show PyData.canLay0 (.tuple (L.map encE)) = true
    simp only [PyData.canLay0]
    exact lay_all L
  have dep : PyData.depth (encP L) ≤ 60 := by
    have := depth_all L
    show PyData.depth (.tuple (L.map encE)) ≤ 60
    simp only [PyData.depth]
    omega
  unfold reprF
  refine if_pos ⟨lay, ?_, ?_, dep⟩
  · show PyData.showable (.tuple (L.map encE)) = true
    simp only [PyData.showable]
    exact h2
  · have sh : PyData.intsShort 13 (encP L) = true := by
      show PyData.intsShort 13 (.tuple (L.map encE)) = true
      simp only [PyData.intsShort]
      exact h1
    have q := PyData.shown_le 13 (by decide) (encP L) (PyData.leavesShort_of_canLay0 13 _ lay sh)
    have w := wt_all hb hs
    have w2 : PyData.weight (encP L) ≤ 52 * L.length := by
      show PyData.weight (.tuple (L.map encE)) ≤ _
      simp only [PyData.weight]
      exact w
    have : lim = 16777216 := rfl
    omega

set_option linter.all false
set_option maxRecDepth 100000
set_option maxHeartbeats 1000000
open DV PySem L2
open PyProof.Rows hiding St
theorem w_dsp {Q : PyData → DV.Env → Prop} {env : DV.Env} {ks : List Str} {fa : DV.Env → Rs (List PyData)} (h : (fa env).wp (fun ds e => Q (.dict ((ks.map PyData.str).zip ds)) e) WE) : (dspE ks fa env).wp Q WE := by
  unfold dspE
  rw [w_bind]
  exact h
theorem w_rng2 {QL : List PyData → DV.Env → Prop} {env : DV.Env} {f g : DV.Env → Rs PyData} (h : (f env).wp (fun d e => (g e).wp (fun d2 e2 => ∃ i j : Int, d = .int i ∧ d2 = .int j ∧ ((-(2 ^ 62) ≤ i ∧ i < 2 ^ 62) ∧ -(2 ^ 62) ≤ j ∧ j < 2 ^ 62) ∧ QL (rangeL i j) e2) WE) WE) : (rng2 f g env).wp QL WE := by
  unfold rng2
  rw [w_bind]
  refine w_mono h fun d e h => ?_
  rw [w_bind]
  refine w_mono h fun d2 e2 ⟨i, j, h1, h2, h3, h4⟩ => ?_
  subst h1 h2
  simp only
  rw [if_pos h3]
  exact h4
theorem ints_of {ys : List PyData} (h : ∀ y ∈ ys, ∃ n : Int, y = .int n) : ∃ cs : List Int, ys = cs.map PyData.int := by
  induction ys with
  | nil => exact ⟨[], rfl⟩
  | cons y r ih =>
    obtain ⟨n, rfl⟩ := h y (List.mem_cons_self ..)
    obtain ⟨cs, rfl⟩ := ih fun z hz => h z (List.mem_cons_of_mem _ hz)
    exact ⟨n :: cs, rfl⟩
theorem intsOf_map (cs : List Int) : intsOf (cs.map PyData.int) = some cs := by
  induction cs with
  | nil => rfl
  | cons c r ih =>
    show (intsOf (r.map PyData.int)).map (c :: ·) = _
    rw [ih]
    rfl
theorem cut_mem {α : Type} {xs : List α} {a b : Option Int} {x : α} (h : x ∈ cutG xs a b) : x ∈ xs := List.mem_of_mem_drop (List.mem_of_mem_take h)
theorem cut_len {α : Type} (xs : List α) (a b : Option Int) : (cutG xs a b).length ≤ xs.length := by
  unfold cutG
  rw [List.length_take, List.length_drop]
  omega
theorem begin_ok {zs : List Int} (hl : zs.length ≤ 63) : (f__law_begin [.list (zs.map PyData.int)]).wp (fun d _ => StO d) WE := by
  refine w_run ?_
  unfold F__law_begin
  repeat' walk_at "kg1"
  refine ⟨63, rfl, _, rfl, ?_⟩
  walk_at "kgg"
  refine ⟨Nat.le_trans (cut_len _ _ _) (by rw [List.length_map]; exact Nat.le_trans hl (by decide)), ?_⟩
  refine w_mono (w_compI (fun y => ∃ n : Int, y = .int n) (fun e => e = [some (.list (zs.map PyData.int)), none, none]) _ _ rfl fun d hd E0 hE => ?_) fun ys e ⟨hy, hl', he⟩ => ?_
  · obtain ⟨n, _, rfl⟩ := List.mem_map.mp (cut_mem hd)
    subst hE
    refine ⟨_, rfl, rfl, ?_⟩
    repeat' first | walk_at "kg1" | (with_reducible refine w_op (mulI_r (by with_unfolding_all decide)) ?_) | (with_reducible refine w_op (by with_unfolding_all rfl) ?_) | (with_reducible refine w_sp (fun h => ?_) (fun h => ?_)) | fail
    all_goals exact ⟨⟨_, rfl⟩, rfl⟩
  · obtain ⟨cs, rfl⟩ := ints_of hy
    have hs : sumD (.list (cs.map PyData.int)) = some (.int cs.sum) := by
      simp only [sumD]
      rw [intsOf_map]
      rfl
    rw [he]
    walk_at "kgg"
    refine w_dsp ?_
    walk_at "kgg"
    refine ⟨_, hs, ?_⟩
    walk_at "kgg"
    exact ⟨cs, 0, 0, 0, _, by omega, rfl⟩

set_option linter.all false
set_option maxRecDepth 100000
set_option maxHeartbeats 1000000
open DV PySem L2
open PyProof.Rows hiding St
/-! ### words -/
theorem let_at {r : Int} (h0 : 0 ≤ r) (h4 : r < 4) : ∃ l : Int, ixA (.list [.int (-2), .int (-1), .int 1, .int 2]) (.int r) = some (.int l) ∧ Lt l := by
  have : r = 0 ∨ r = 1 ∨ r = 2 ∨ r = 3 := by omega
  rcases this with rfl | rfl | rfl | rfl
  · exact ⟨-2, rfl, by decide⟩
  · exact ⟨-1, rfl, by decide⟩
  · exact ⟨1, rfl, by decide⟩
  · exact ⟨2, rfl, by decide⟩
theorem drawn_ok {d : PyData} (hd : StO d) {Q : PyData → DV.Env → Prop} (k : ∀ (w : List Int) (d' : PyData) (e : DV.Env), LtAll w → w.length ≤ 12 → StO d' → e.getD 0 none = some d' → Q (encW w) e) : (f__law_word [d, .int 2, .int 12]).wp Q WE := by
  refine w_run ?_
  unfold F__law_word
  repeat' walk_at "kg1"
  refine w_rng2 ?_
  walk_at "kgg"
  refine ⟨-2, 3, rfl, rfl, by decide, ?_⟩
  walk_at "kgg"
  show (Rs.ok [PyData.int (-2), .int (-1), .int 1, .int 2] _).wp _ _
  rw [w_ok]
  walk_at "kgg"
  refine draw_ok (many := 12 + 1) hd (by decide) (by decide) fun r d1 e1 h0 h1 hs1 he1 => ?_
  rw [he1]
  refine ⟨r, rfl, ⟨by omega, by omega⟩, ?_⟩
  refine ⟨by rw [rangeL_len]; show _ ≤ 16777216; omega, ?_⟩
  refine w_mono (w_compI (fun y => ∃ l : Int, y = .int l ∧ Lt l) (fun e => ∃ d', StO d' ∧ e = [some d', some (.int 2), some (.int 12), some (.list [.int (-2), .int (-1), .int 1, .int 2]), none, none]) _ _ ⟨d1, hs1, rfl⟩ fun d hd' E0 hE => ?_) fun ys e ⟨hy, hl, d2, hs2, he⟩ => ?_
  · obtain ⟨d', hs', rfl⟩ := hE
    obtain ⟨i, _, rfl⟩ := List.mem_map.mp hd'
    refine ⟨_, rfl, rfl, ?_⟩
    walk_at "kgg"
    refine draw_ok (many := 2 * 2) hs' (by decide) (by decide) fun r' d3 e3 h0 h1 hs3 he3 => ?_
    rw [he3]
    obtain ⟨l, q1, q2⟩ := let_at h0 h1
    refine ⟨_, q1, ⟨l, rfl, q2⟩, d3, hs3, rfl⟩
  · obtain ⟨w, rfl⟩ := ints_of fun y h => let ⟨l, h1, _⟩ := hy y h; ⟨l, h1⟩
    rw [he]
    walk_at "kgg"
    refine k w d2 _ (fun l hm => ?_) ?_ hs2 rfl
    · obtain ⟨l', h1, h2⟩ := hy _ (List.mem_map_of_mem hm)
      cases h1
      exact h2
    · rw [List.length_map, rangeL_len] at hl
      omega

set_option linter.all false
set_option maxRecDepth 100000
set_option maxHeartbeats 1000000
open DV PySem L2
open PyProof.Rows hiding St
theorem Mt.le_mono {m : Mt} {a b : Nat} (h : m.le a) (hab : a ≤ b) : m.le b := ⟨Nat.le_trans h.1 hab, Nat.le_trans h.2.1 hab, Nat.le_trans h.2.2.1 hab, Nat.le_trans h.2.2.2 hab⟩
theorem sm_of {m : Mt} {a : Nat} (h : m.le a) (ha : a < 2 ^ 64) : sm m.p ∧ sm m.q ∧ sm m.r ∧ sm m.s := ⟨Nat.lt_of_le_of_lt h.1 ha, Nat.lt_of_le_of_lt h.2.1 ha, Nat.lt_of_le_of_lt h.2.2.1 ha, Nat.lt_of_le_of_lt h.2.2.2 ha⟩
/-- a step's matrix -/
def stepM (n : Int) (r : Int) : Mt := if r = 0 then ⟨1, n, 0, 1⟩ else if r = 1 then ⟨1, 0, n, 1⟩ else ⟨0, -1, 1, 0⟩
theorem step_at {n r : Int} (h0 : 0 ≤ r) (h3 : r < 3) : ixA (.list [.tuple [.int 1, .int n, .int 0, .int 1], .tuple [.int 1, .int 0, .int n, .int 1], .tuple [.int 0, .int (-1), .int 1, .int 0]]) (.int r) = some (encM (stepM n r)) := by
  have : r = 0 ∨ r = 1 ∨ r = 2 := by omega
  rcases this with rfl | rfl | rfl <;> rfl
theorem step_good {n r : Int} (hn : n.natAbs ≤ 3) : (stepM n r).det = 1 ∧ (stepM n r).le 3 := by
  unfold stepM
  split
  · exact ⟨by simp [Mt.det], by simp [Mt.le]; omega⟩
  split
  · exact ⟨by simp [Mt.det], by simp [Mt.le]; omega⟩
  · exact ⟨by simp [Mt.det], by simp [Mt.le]⟩
def MI (ds : List PyData) (e : DV.Env) : Prop := ∃ (d : PyData) (m : Mt) (j : Nat) (y2 y3 : Option PyData), StO d ∧ m.det = 1 ∧ m.le (6 ^ j) ∧ j + ds.length ≤ 4 ∧ e = [some d, some (encM m), y2, y3]
theorem matrix_ok {d : PyData} (hd : StO d) {Q : PyData → DV.Env → Prop} (k : ∀ (m : Mt) (d' : PyData) (e : DV.Env), m.det = 1 → m.le 1296 → StO d' → e.getD 0 none = some d' → Q (encM m) e) : (f__law_matrix [d]).wp Q WE := by
  refine w_run ?_
  unfold F__law_matrix
  walk_at "kgg"
  refine draw_ok (many := 5) hd (by decide) (by decide) fun r d1 e1 h0 h1 hs1 he1 => ?_
  rw [he1]
  refine ⟨r, rfl, ⟨by omega, by omega⟩, ?_⟩
  refine w_loop MI ?_ ?_ _ _ ⟨d1, Mt.one, 0, _, _, hs1, by decide, by simp [Mt.le, Mt.one], by rw [rangeL_len]; omega, rfl⟩
  · rintro e ⟨d2, m, j, y2, y3, h2, h3, h4, h5, rfl⟩
    walk_at "kgg"
    refine k m d2 _ h3 (Mt.le_mono h4 ?_) h2 rfl
    have hj : j ≤ 4 := by simpa using h5
    exact Nat.le_trans (Nat.pow_le_pow_right (by decide) hj) (by decide)
  · rintro x ds e ⟨d2, m, j, y2, y3, h2, h3, h4, h5, rfl⟩
    refine ⟨_, rfl, ?_⟩
    walk_at "kgg"
    refine draw_ok (many := 7) h2 (by decide) (by decide) fun r3 d3 e3 g0 g1 hs3 he3 => ?_
    rw [he3]
    walk_at "kgg"
    refine draw_ok (many := 3) hs3 (by decide) (by decide) fun r4 d4 e4 q0 q1 hs4 he4 => ?_
    rw [he4]
    refine ⟨_, step_at q0 q1, ?_⟩
    walk_at "kgg"
    obtain ⟨s1, s2⟩ := step_good (n := r3 - 3) (r := r4) (by omega)
    refine w_mono (by_ok (m := m) (sm_of s2 (by decide))) fun x e hx => ?_
    subst hx
    walk_at "kgg"
    refine ⟨d4, m.mul (stepM (r3 - 3) r4), j + 1, _, _, hs4, mul_det h3 s1, ?_, ?_, rfl⟩
    · have := Mt.le_mul h4 s2
      have e : 2 * (6 ^ j * 3) = 6 ^ (j + 1) := by rw [Nat.pow_succ]; omega
      rw [e] at this
      exact this
    · simp only [List.length_cons] at h5
      omega
/-! ### along a word -/
theorem let_1 (a b : Mt) : Mt.let a b 1 = a := by simp [Mt.let]
theorem let_2 (a b : Mt) : Mt.let a b 2 = b := by simp [Mt.let]
theorem let_n1 (a b : Mt) : Mt.let a b (-1) = a.inv := by simp [Mt.let]
theorem let_n2 (a b : Mt) : Mt.let a b (-2) = b.inv := by simp [Mt.let]
def AI (w : List Int) (a b : Mt) (ds : List PyData) (e : DV.Env) : Prop := ∃ (r : List Int) (m : Mt) (y4 y5 : Option PyData), ds = r.map PyData.int ∧ LtAll r ∧ e = [some (encW w), some (encM a), some (encM b), some (encM m), y4, y5] ∧ along a b r m = along a b w Mt.one
theorem along_ok {w : List Int} {a b : Mt} (hw : LtAll w) (ha : a.le 1296) (hb : b.le 1296) : (f__law_along [encW w, encM a, encM b]).wp (fun d _ => d = .int (along a b w Mt.one).tr) WE := by
  refine w_run ?_
  unfold F__law_along
  walk_at "kgg"
  refine w_loop (AI w a b) ?_ ?_ _ _ ⟨w, Mt.one, _, _, rfl, hw, rfl, rfl⟩
  · rintro e ⟨r, m, y4, y5, h1, _, rfl, h2⟩
    cases r with
    | cons _ _ => cases h1
    | nil =>
      have h2' : m = along a b w Mt.one := h2
      unfold encM
      walk_at "kgg"
      show PyData.int (m.p + m.s) = _
      rw [← h2']
      rfl
  · rintro d ds e ⟨r, m, y4, y5, h1, h2, rfl, h3⟩
    cases r with
    | nil => cases h1
    | cons l r =>
      have h1' : d :: ds = .int l :: r.map PyData.int := h1
      injection h1' with e1 e2
      subst e1 e2
      refine ⟨_, rfl, ?_⟩
      have hl := h2 l (List.mem_cons_self ..)
      have hs := sm_of (Mt.le_let ha hb l) (by decide)
      have fin : ∀ y5 : Option PyData, AI w a b (r.map PyData.int) [some (encW w), some (encM a), some (encM b), some (encM (m.mul (Mt.let a b l))), some (.int l), y5] := fun y5 =>
        ⟨r, m.mul (Mt.let a b l), _, _, rfl, fun x hx => h2 x (List.mem_cons_of_mem _ hx), rfl, h3⟩
      rcases hl with rfl | rfl | rfl | rfl
      · rw [let_1] at hs fin
        walk_at "kgg"
        refine w_mono (by_ok (m := m) (n := a) hs) fun x e hx => ?_
        subst hx
        walk_at "kgg"
        exact fin _
      · rw [let_n1] at hs fin
        walk_at "kgg"
        refine w_mono (by_ok (m := m) (n := a.inv) hs) fun x e hx => ?_
        subst hx
        walk_at "kgg"
        exact fin _
      · rw [let_2] at hs fin
        walk_at "kgg"
        refine w_mono (by_ok (m := m) (n := b) hs) fun x e hx => ?_
        subst hx
        walk_at "kgg"
        exact fin _
      · rw [let_n2] at hs fin
        walk_at "kgg"
        refine w_mono (by_ok (m := m) (n := b.inv) hs) fun x e hx => ?_
        subst hx
        walk_at "kgg"
        exact fin _
/-! ### reduced words -/
theorem reduced2_ok {w : List Int} (h : LtAll w) (hl : w.length ≤ 12) : (f_reduced [.int 2, encW w]).wp (fun d _ => d = encW (red [] w)) WE := by
  refine w_run ?_
  unfold F_reduced
  walk_at "kgg"
  have hc : f_check_letters [.int 2] = .ok .none [some (.int 2)] := rfl
  show (f_check_letters [.int 2]).wp _ _
  rw [hc, w_ok]
  walk_at "kgg"
  refine w_mono (word2_ok h hl) fun d e hd => ?_
  subst hd
  walk_at "kgg"
  exact reduced_ok (Nat.lt_of_le_of_lt hl (by decide))

set_option linter.all false
set_option maxRecDepth 100000
set_option maxHeartbeats 1000000
open DV PySem L2
open PyProof.Rows hiding St
local macro_rules | `(tactic| walk_at "kgh") => `(tactic| repeat' first | walk_at "kg1" | fail)
def Bad (x : PyData) : Prop := (f_is_polynomial [x]).wp (fun d _ => d = .bool false) WE
theorem bad_of {x : PyData} {e : DV.Env} (h : f_is_polynomial [x] = .ok (.bool false) e) : Bad x := by
  unfold Bad
  rw [h]
  exact rfl
abbrev t3 (a b c : PyData) : PyData := .tuple [a, b, c]
abbrev row : PyData := .tuple [t3 (.int 0) (.int 0) (.int 0), .int 2]
def bads : List PyData := [.none, .int 3, .str "12", .tuple [.tuple [t3 (.int 0) (.int 0) (.int 0), .int 0]], .tuple [.tuple [.tuple [.int 0, .int 0], .int 1]], .tuple [.tuple [t3 (.int 0) (.int 0) (.int (-1)), .int 1]], .tuple [.tuple [.int 1, .int 1]], .tuple [.tuple [t3 (.int 0) (.int 0) (.int 0), .bool true]],
  .list [row], .tuple [row, row], .tuple [.tuple [t3 (.int 0) (.int 0) (.int 1), .int 1], row], row, .tuple [.tuple [row, row]], .tuple [.tuple [t3 (.int 0) (.int 0) (.bool true), .int 1]], .tuple [.tuple [t3 (.int 0) (.int 0) (.int 0), .none]], .tuple [.tuple [.list [.int 0, .int 0, .int 0], .int 1]]]
theorem bads_bad : ∀ x ∈ bads, Bad x := by
  intro x hx
  simp only [bads, List.mem_cons, List.not_mem_nil, or_false] at hx
  rcases hx with rfl | rfl | rfl | rfl | rfl | rfl | rfl | rfl | rfl | rfl | rfl | rfl | rfl | rfl | rfl | rfl <;> exact bad_of rfl
theorem bad_none : Bad .none := bad_of rfl
theorem bad_0 : Bad (.int 0) := bad_of rfl
theorem bad_list (xs : List PyData) : Bad (.list xs) := bad_of rfl
theorem bad_rev {L : Pl} (ha : Asc L) (hb : Bx 25 L) (hz : ∀ e ∈ L, e.2 ≠ 0) (hl : L.length ≤ lim) (h1 : 1 < L.length) : Bad (.tuple (L.map encE).reverse) := by
  have h := poly_gen (L := L.reverse) (n := 25) (fun e he => hb e (List.mem_reverse.mp he)) (fun e he => hz e (List.mem_reverse.mp he)) (by rw [List.length_reverse]; exact hl)
  rw [asc_rev ha h1] at h
  have e : encP L.reverse = .tuple (L.map encE).reverse := by
    unfold encP
    rw [List.map_reverse]
  rw [e] at h
  exact h
theorem bad_row {L : Pl} (hb : Bx 25 L) (hz : ∀ e ∈ L, e.2 ≠ 0) (hl : L.length < lim) (h1 : L ≠ []) : Bad (.tuple (L.map encE ++ [row])) := by
  have h := poly_gen (L := L ++ [(k0, 2)]) (n := 25) (fun e he => (List.mem_append.mp he).elim (hb e) fun q => by
    obtain rfl := List.mem_singleton.mp q
    decide) (fun e he => (List.mem_append.mp he).elim (hz e) fun q => by
    obtain rfl := List.mem_singleton.mp q
    decide) (by
    rw [List.length_append]
    show L.length + 1 ≤ _
    omega)
  rw [asc_row h1 hb] at h
  have e : encP (L ++ [(k0, 2)]) = .tuple (L.map encE ++ [row]) := by
    unfold encP
    rw [List.map_append]
    rfl
  rw [e] at h
  exact h
theorem no_polys {L : Pl} (ha : Asc L) (hb : Bx 25 L) (hz : ∀ e ∈ L, e.2 ≠ 0) (hl : L.length < lim) : (f__law_no_polynomials [encP L]).wp (fun d _ => ∃ xs, d = .list xs ∧ xs.length ≤ 100 ∧ ∀ x ∈ xs, Bad x) WE := by
  refine w_run ?_
  unfold F__law_no_polynomials encP
  walk_at "kgg"
  have fin : ∀ a b c : PyData, Bad a → Bad b → Bad c → ∃ xs, (PyData.list (bads ++ [a, b, c])) = .list xs ∧ xs.length ≤ 100 ∧ ∀ x ∈ xs, Bad x := by
    intro a b c h1 h2 h3
    refine ⟨_, rfl, by simp [bads], fun x hx => ?_⟩
    rcases List.mem_append.mp hx with q | q
    · exact bads_bad x q
    · simp only [List.mem_cons, List.not_mem_nil, or_false] at q
      rcases q with rfl | rfl | rfl <;> assumption
  refine w_sp (fun h => ?_) (fun h => ?_)
  · have h1 : 1 < L.length := by
      have := of_decide_eq_true h
      rw [List.length_map] at this
      omega
    walk_at "kgg"
    refine w_spt (decide_eq_true (by rw [List.length_map]; omega)) ?_
    walk_at "kgg"
    refine ⟨.tuple (L.map encE ++ [row]), ?_, ?_⟩
    · show (if (L.map encE).length + 1 ≤ lim then some (PyData.tuple (L.map encE ++ [row])) else none) = _
      rw [if_pos (by rw [List.length_map]; omega)]
    · walk_at "kgg"
      exact fin _ _ _ (bad_rev ha hb hz (Nat.le_of_lt hl) h1) (bad_list _) (bad_row hb hz hl (by intro z; rw [z] at h1; simp at h1))
  · walk_at "kgg"
    refine w_sp (fun h2 => ?_) (fun h2 => ?_)
    · have h1 : 0 < L.length := by
        have := of_decide_eq_true h2
        rw [List.length_map] at this
        omega
      walk_at "kgg"
      refine ⟨.tuple (L.map encE ++ [row]), ?_, ?_⟩
      · show (if (L.map encE).length + 1 ≤ lim then some (PyData.tuple (L.map encE ++ [row])) else none) = _
        rw [if_pos (by rw [List.length_map]; omega)]
      · walk_at "kgg"
        exact fin _ _ _ bad_none (bad_list _) (bad_row hb hz hl (by intro z; rw [z] at h1; simp at h1))
    · walk_at "kgg"
      exact fin _ _ _ bad_none (bad_list _) bad_0

set_option linter.all false
set_option maxRecDepth 100000
set_option maxHeartbeats 2000000
open DV PySem L2
open PyProof.Rows hiding St
/-! ### pieces of words -/
theorem cut_take {α : Type} (xs : List α) {r : Int} (h0 : 0 ≤ r) (h1 : r ≤ xs.length) : cutG xs none (some r) = xs.take r.toNat := by
  unfold cutG HT.sIx
  simp only
  rw [if_neg (by omega)]
  have e : min r.toNat xs.length = r.toNat := by omega
  rw [e]
  simp
theorem cut_drop {α : Type} (xs : List α) {r : Int} (h0 : 0 ≤ r) (h1 : r ≤ xs.length) : cutG xs (some r) none = xs.drop r.toNat := by
  unfold cutG HT.sIx
  simp only
  rw [if_neg (by omega)]
  have e : min r.toNat xs.length = r.toNat := by omega
  rw [e, List.take_of_length_le (by rw [List.length_drop]; omega)]
theorem sl_take (w : List Int) {r : Int} (h0 : 0 ≤ r) (h1 : r ≤ w.length) : slD (encW w) none (some r) = some (encW (w.take r.toNat)) := by
  show some (PyData.tuple (cutG (w.map PyData.int) none (some r))) = _
  rw [cut_take _ h0 (by rw [List.length_map]; exact h1)]
  unfold encW
  rw [List.map_take]
theorem sl_drop (w : List Int) {r : Int} (h0 : 0 ≤ r) (h1 : r ≤ w.length) : slD (encW w) (some r) none = some (encW (w.drop r.toNat)) := by
  show some (PyData.tuple (cutG (w.map PyData.int) (some r) none)) = _
  rw [cut_drop _ h0 (by rw [List.length_map]; exact h1)]
  unfold encW
  rw [List.map_drop]
theorem add_w {u v : List Int} (h1 : u.length ≤ 1000) (h2 : v.length ≤ 1000) : addD (encW u) (encW v) = some (encW (u ++ v)) := by
  show (if (u.map PyData.int).length + (v.map PyData.int).length ≤ lim then some (PyData.tuple (u.map PyData.int ++ v.map PyData.int)) else none) = _
  rw [if_pos (by
    rw [List.length_map, List.length_map]
    show _ ≤ 16777216
    omega)]
  unfold encW
  rw [List.map_append]
theorem len_w (w : List Int) : one lenA [encW w] = some (.int w.length) := by
  show some (PyData.int ((w.map PyData.int).length : Int)) = _
  rw [List.length_map]
theorem rev_w (w : List Int) : revD (encW w) = some (encW w.reverse) := by
  show some (PyData.tuple (w.map PyData.int).reverse) = _
  unfold encW
  rw [List.map_reverse]
theorem letter_at {r : Int} (h0 : 0 ≤ r) (h4 : r < 4) : ∃ l : Int, ixA (.list [.int 1, .int (-1), .int 2, .int (-2)]) (.int r) = some (.int l) ∧ Lt l := by
  have : r = 0 ∨ r = 1 ∨ r = 2 ∨ r = 3 := by omega
  rcases this with rfl | rfl | rfl | rfl
  · exact ⟨1, rfl, by decide⟩
  · exact ⟨-1, rfl, by decide⟩
  · exact ⟨2, rfl, by decide⟩
  · exact ⟨-2, rfl, by decide⟩
/-- a word's polynomial, and those of other words -/
structure Same (w u : List Int) : Prop where
  lt : LtAll u
  len : u.length ≤ 12
  eq : polyT u = polyT w
theorem lt_app {u v : List Int} (h1 : LtAll u) (h2 : LtAll v) : LtAll (u ++ v) := fun x hx => (List.mem_append.mp hx).elim (h1 x) (h2 x)
theorem lt_take {w : List Int} (h : LtAll w) (n : Nat) : LtAll (w.take n) := fun x hx => h x (List.mem_of_mem_take hx)
theorem lt_drop {w : List Int} (h : LtAll w) (n : Nat) : LtAll (w.drop n) := fun x hx => h x (List.mem_of_mem_drop hx)
theorem same_of {w u : List Int} (h : LtAll w) (hl : w.length ≤ 12) (hu : LtAll u) (hul : u.length ≤ 12) (e : T u = T w) : Same w u := ⟨hu, hul, poly_eq hu hul h hl e⟩
theorem same_rot {w : List Int} (h : LtAll w) (hl : w.length ≤ 12) (n : Nat) : Same w (w.drop n ++ w.take n) := by
  refine same_of h hl (lt_app (lt_drop h n) (lt_take h n)) ?_ ?_
  · rw [List.length_append, List.length_drop, List.length_take]
    omega
  · rw [T_rot _ _ (lt_drop h n) (lt_take h n), List.take_append_drop]
theorem same_back {w : List Int} (h : LtAll w) (hl : w.length ≤ 12) : Same w (back w) := same_of h hl (back_lt h) (by simpa [back] using hl) (T_back w h)
theorem same_red {w : List Int} (h : LtAll w) (hl : w.length ≤ 12) : Same w (red [] w) := same_of h hl (run_red w [] h (fun _ z => nomatch z)).2 (Nat.le_trans (red_sub w []) (by simpa using hl)) (T_red w h)
theorem same_ins {w : List Int} (h : LtAll w) (hl : w.length < 11) (n : Nat) {l : Int} (hl2 : Lt l) : Same w (w.take n ++ [l, -l] ++ w.drop n) := by
  refine same_of h (by omega) (lt_app (lt_app (lt_take h n) fun x hx => ?_) (lt_drop h n)) ?_ ?_
  · simp only [List.mem_cons, List.not_mem_nil, or_false] at hx
    rcases hx with rfl | rfl
    · exact hl2
    · exact hl2.neg
  · simp only [List.length_append, List.length_drop, List.length_take, List.length_cons, List.length_nil]
    omega
  · unfold T
    rw [List.append_assoc]
    show tau (run (w.take n ++ l :: -l :: w.drop n) e1) = _
    rw [run_ins _ _ l hl2, List.take_append_drop]
theorem same_conj {w : List Int} (h : LtAll w) (hl : w.length < 11) {l : Int} (hl2 : Lt l) : Same w ([l] ++ w ++ [-l]) := by
  refine same_of h (by omega) (lt_app (lt_app (fun x hx => ?_) h) fun x hx => ?_) ?_ ?_
  · obtain rfl := List.mem_singleton.mp hx
    exact hl2
  · obtain rfl := List.mem_singleton.mp hx
    exact hl2.neg
  · simp only [List.length_append, List.length_cons, List.length_nil]
    omega
  · exact T_conj w l hl2 h
/-- the text of another word's polynomial is the same -/
theorem repr_same {w u : List Int} (P : PolyOk w (polyT w)) (s : Same w u) {Q : PyData → DV.Env → Prop} (e0 : DV.Env) (q : Q (.bool false) e0) :
    (f_trace_of [encW u]).wp (fun d _ => ∃ r, one reprF [d] = some r ∧ ∃ r2, one reprF [encP (polyT w)] = some r2 ∧ ∃ r3, neD r r2 = some r3 ∧ Q r3 e0) WE := by
  refine w_mono (trace_ok s.lt s.len) fun d e hd => ?_
  subst hd
  rw [s.eq]
  exact ⟨_, repr_poly P.bx P.sm P.len, _, repr_poly P.bx P.sm P.len, _, ne_same (oTx_P _), q⟩
theorem value_same {w : List Int} {a b : Mt} (P : PolyOk w (polyT w)) (ha : a.det = 1) (hb : b.det = 1) (la : a.le 1296) (lb : b.le 1296) (hl : w.length ≤ 12) :
    (f_value_of [encP (polyT w), .int (a.p + a.s), .int (b.p + b.s), .int ((a.mul b).p + (a.mul b).s)]).wp (fun d _ => d = .int (along a b w Mt.one).tr) WE ∧ reprF (.int (along a b w Mt.one).tr) = some (.str (PyData.int (along a b w Mt.one).tr).shown) := by
  have ab := Mt.le_mul la lb
  obtain ⟨a1, a2, a3, a4⟩ := la
  obtain ⟨b1, b2, b3, b4⟩ := lb
  obtain ⟨c1, c2, c3, c4⟩ := ab
  constructor
  · refine w_mono (value_ok P.asc P.bx P.nz (Nat.le_trans P.len (by decide)) ?_ ?_ ?_) fun d e hd => ?_
    · show Int.natAbs _ < 2 ^ 64
      omega
    · show Int.natAbs _ < 2 ^ 64
      omega
    · show Int.natAbs _ < 2 ^ 64
      omega
    · rw [hd]
      exact congrArg PyData.int (P.val a b ha hb)
  · refine repr_int ?_
    have h := along_le (A := a) (B := b) (n := 1296) ⟨a1, a2, a3, a4⟩ ⟨b1, b2, b3, b4⟩ w Mt.one 1 (by simp [Mt.le, Mt.one])
    obtain ⟨h1, _, _, h4⟩ := h
    have hp : (2 * 1296) ^ w.length * 1 ≤ (2 * 1296) ^ 12 := by
      rw [Nat.mul_one]
      exact Nat.pow_le_pow_right (by decide) hl
    have hb2 : 2 * (2 * 1296) ^ 12 < 10 ^ 60 := by decide
    show Int.natAbs ((along a b w Mt.one).p + (along a b w Mt.one).s) < 10 ^ 60
    generalize (2 * 1296) ^ 12 = X at *
    generalize (2 * 1296) ^ w.length * 1 = Y at *
    generalize 10 ^ 60 = Z at *
    omega

set_option linter.all false
set_option maxRecDepth 100000
set_option maxHeartbeats 2000000
open DV PySem L2
open PyProof.Rows hiding St
theorem any_false {α : Type} (ds : List α) : one anyD [.list (ds.map fun _ => PyData.bool false)] = some (.bool false) := by
  have h : bolsOf (ds.map fun _ => PyData.bool false) = some (ds.map fun _ => false) := by
    induction ds with
    | nil => rfl
    | cons d r ih =>
      show (bolsOf (r.map fun _ => PyData.bool false)).map (false :: ·) = _
      rw [ih]
      rfl
  show anyD (.list (ds.map fun _ => PyData.bool false)) = _
  simp only [anyD]
  rw [h]
  simp
theorem big_ok : (f_is_polynomial [.tuple [.tuple [.tuple [.int (10 ^ 60), .int 0, .int 0], .int (10 ^ 60)]]]).wp (fun d _ => d = .bool true) WE := by
  have h := poly_gen (n := 10 ^ 60) (L := [((10 ^ 60, 0, 0), 10 ^ 60)]) (fun e he => by
    obtain rfl := List.mem_singleton.mp he
    decide) (fun e he => by
    obtain rfl := List.mem_singleton.mp he
    decide) (by decide)
  exact h
/-- ahead of a turn -/
def LI (sc : PyData) (_ : List PyData) (e : DV.Env) : Prop := ∃ (d : PyData) (y2 y3 y4 y5 y6 y7 y8 y9 y10 y11 y12 y13 y14 y15 y16 y17 y18 : Option PyData), StO d ∧ e = [some sc, some d, y2, y3, y4, y5, y6, y7, y8, y9, y10, y11, y12, y13, y14, y15, y16, y17, y18]
def SI (sc t w p : PyData) (_ : List PyData) (e : DV.Env) : Prop := ∃ (d : PyData) (y5 y6 y7 y8 y9 y10 y11 y12 y13 y14 y15 y16 y17 y18 : Option PyData), StO d ∧ e = [some sc, some d, some t, some w, some p, y5, y6, y7, y8, y9, y10, y11, y12, y13, y14, y15, y16, y17, y18]
def OI (w : List Int) (f : Option PyData → DV.Env) (ds : List PyData) (e : DV.Env) : Prop := (∀ d ∈ ds, ∃ u, d = encW u ∧ Same w u) ∧ ∃ y17, e = f y17

set_option linter.all false
set_option maxRecDepth 100000
set_option maxHeartbeats 2000000
open DV PySem L2
open PyProof.Rows hiding St
/-! ### a turn, statement by statement -/
def T1 : DV.Env → Rs Fl := asgS 3 (callM 0 1 f__law_word [] (consA (varE 1) (consA (cstE (.int 2)) (consA (cstE (.int 12)) nilA))))
def T2 : DV.Env → Rs Fl := asgS 4 (callKE [0] f_trace_of nilA (consA (varE 3) nilA))
def T3 : DV.Env → Rs Fl := ifS (orB (asB (bin2 notBD (callKE [0] f_is_polynomial nilA (consA (varE 4) nilA)) (cstE (.bool true)))) (asB (bin2 neD (nary (one reprF) (consA (callE f_trace_of [] (consA (varE 3) nilA)) nilA)) (nary (one reprF) (consA (varE 4) nilA))))) (retS (cstE (.bool false))) (nilS)
def T4 : DV.Env → Rs Fl := ifS (orB (asB (nary (one anyD) (consA (compE [18] (itemsE (callE f__law_no_polynomials [] (consA (varE 4) nilA))) (nameG 18) (yesB) (bin2 notBD (callE f_is_polynomial [] (consA (varE 18) nilA)) (cstE (.bool false)))) nilA))) (asB (bin2 notBD (callE f_is_polynomial [] (consA (tupE (consA (tupE (consA (tupE (consA (bin2 powD (cstE (.int 10)) (cstE (.int 60))) (consA (cstE (.int 0)) (consA (cstE (.int 0)) nilA)))) (consA (bin2 powD (cstE (.int 10)) (cstE (.int 60))) nilA))) nilA)) nilA)) (cstE (.bool true))))) (retS (cstE (.bool false))) (nilS)
def T5 : DV.Env → Rs Fl := forS (rng1 (cstE (.int 3))) (nameG 5) (seqS (par2S 6 7 (callM 0 1 f__law_matrix [] (consA (varE 1) nilA)) (callM 0 1 f__law_matrix [] (consA (varE 1) nilA))) (seqS (asgS 8 (callE f__law_by [] (consA (varE 6) (consA (varE 7) nilA)))) (seqS (par3S 9 10 11 (consA (bin2 addD (bin2 ixA (varE 6) (cstE (.int 0))) (bin2 ixA (varE 6) (cstE (.int 3)))) (consA (bin2 addD (bin2 ixA (varE 7) (cstE (.int 0))) (bin2 ixA (varE 7) (cstE (.int 3)))) (consA (bin2 addD (bin2 ixA (varE 8) (cstE (.int 0))) (bin2 ixA (varE 8) (cstE (.int 3)))) nilA)))) (seqS (asgS 12 (callE f__law_along [] (consA (varE 3) (consA (varE 6) (consA (varE 7) nilA))))) (ifS (orB (asB (bin2 neD (nary (one reprF) (consA (callE f_value_of [] (consA (varE 4) (consA (varE 9) (consA (varE 10) (consA (varE 11) nilA))))) nilA)) (nary (one reprF) (consA (varE 12) nilA)))) (asB (bin2 neD (callKE [3, 2, 1, 0] f_value_of nilA (consA (varE 11) (consA (varE 10) (consA (varE 9) (consA (varE 4) nilA))))) (varE 12)))) (retS (cstE (.bool false))) (nilS))))))
def T6 : DV.Env → Rs Fl := asgS 13 (callM 0 1 f__law_draw [] (consA (varE 1) (consA (bin2 addD (nary (one lenA) (consA (varE 3) nilA)) (cstE (.int 1))) nilA)))
def T7 : DV.Env → Rs Fl := asgS 14 (nary (one tupF) (consA (compE [15] (itemsE (un1 revD (varE 3))) (nameG 15) (yesB) (un1 negD (varE 15))) nilA))
def T8 : DV.Env → Rs Fl := asgS 15 (bin2 ixA (lstE (consA (cstE (.int 1)) (consA (un1 negD (cstE (.int 1))) (consA (cstE (.int 2)) (consA (un1 negD (cstE (.int 2))) nilA))))) (callM 0 1 f__law_draw [] (consA (varE 1) (consA (cstE (.int 4)) nilA))))
def T9 : DV.Env → Rs Fl := asgS 16 (bin2 addD (bin2 addD (sliceE (varE 3) (noO) (someO (varE 13))) (tupE (consA (varE 15) (consA (un1 negD (varE 15)) nilA)))) (sliceE (varE 3) (someO (varE 13)) (noO)))
def T10 : DV.Env → Rs Fl := forS (itemsE (bin2 addD (lstE (consA (bin2 addD (sliceE (varE 3) (someO (varE 13)) (noO)) (sliceE (varE 3) (noO) (someO (varE 13)))) (consA (varE 14) (consA (callE f_reduced [] (consA (cstE (.int 2)) (consA (varE 3) nilA))) nilA)))) (ifE (asB (bin2 ltA (nary (one lenA) (consA (varE 3) nilA)) (cstE (.int 11)))) (lstE (consA (varE 16) nilA)) (lstE (nilA))))) (nameG 17) (ifS (asB (bin2 neD (nary (one reprF) (consA (callE f_trace_of [] (consA (varE 17) nilA)) nilA)) (nary (one reprF) (consA (varE 4) nilA)))) (retS (cstE (.bool false))) (nilS))
def T11 : DV.Env → Rs Fl := ifS (andB (asB (bin2 ltA (nary (one lenA) (consA (varE 3) nilA)) (cstE (.int 11)))) (asB (bin2 neD (nary (one reprF) (consA (callE f_trace_of [] (consA (bin2 addD (bin2 addD (tupE (consA (varE 15) nilA)) (varE 3)) (tupE (consA (un1 negD (varE 15)) nilA))) nilA)) nilA)) (nary (one reprF) (consA (varE 4) nilA))))) (retS (cstE (.bool false))) (nilS)
theorem F_law_eq : F_law = seqS (asgS 1 (callE f__law_begin [] (consA (varE 0) nilA))) (seqS (forS (rng1 (cstE (.int 4))) (nameG 2) (seqS T1 (seqS T2 (seqS T3 (seqS T4 (seqS T5 (seqS T6 (seqS T7 (seqS T8 (seqS T9 (seqS T10 (T11)))))))))))) (retS (cstE (.bool true)))) := rfl
def S1 : DV.Env → Rs Fl := par2S 6 7 (callM 0 1 f__law_matrix [] (consA (varE 1) nilA)) (callM 0 1 f__law_matrix [] (consA (varE 1) nilA))
def S2 : DV.Env → Rs Fl := asgS 8 (callE f__law_by [] (consA (varE 6) (consA (varE 7) nilA)))
def S3 : DV.Env → Rs Fl := par3S 9 10 11 (consA (bin2 addD (bin2 ixA (varE 6) (cstE (.int 0))) (bin2 ixA (varE 6) (cstE (.int 3)))) (consA (bin2 addD (bin2 ixA (varE 7) (cstE (.int 0))) (bin2 ixA (varE 7) (cstE (.int 3)))) (consA (bin2 addD (bin2 ixA (varE 8) (cstE (.int 0))) (bin2 ixA (varE 8) (cstE (.int 3)))) nilA)))
def S4 : DV.Env → Rs Fl := asgS 12 (callE f__law_along [] (consA (varE 3) (consA (varE 6) (consA (varE 7) nilA))))
def S5 : DV.Env → Rs Fl := ifS (orB (asB (bin2 neD (nary (one reprF) (consA (callE f_value_of [] (consA (varE 4) (consA (varE 9) (consA (varE 10) (consA (varE 11) nilA))))) nilA)) (nary (one reprF) (consA (varE 12) nilA)))) (asB (bin2 neD (callKE [3, 2, 1, 0] f_value_of nilA (consA (varE 11) (consA (varE 10) (consA (varE 9) (consA (varE 4) nilA))))) (varE 12)))) (retS (cstE (.bool false))) (nilS)
theorem T5_eq : T5 = forS (rng1 (cstE (.int 3))) (nameG 5) (seqS S1 (seqS S2 (seqS S3 (seqS S4 (S5))))) := rfl

set_option linter.all false
set_option maxRecDepth 100000
set_option maxHeartbeats 2000000
open DV PySem L2
open PyProof.Rows hiding St
section
variable {y0 y1 y2 y3 y4 y5 y6 y7 y8 y9 y10 y11 y12 y13 y14 y15 y16 y17 y18 : Option PyData} {QF : Fl → DV.Env → Prop} {w : List Int} {d : PyData}

theorem T1_ok (hd : StO d) (k : ∀ (w : List Int) (d' : PyData), LtAll w → w.length ≤ 12 → StO d' → QF .nx [y0, some d', y2, some (encW w), y4, y5, y6, y7, y8, y9, y10, y11, y12, y13, y14, y15, y16, y17, y18]) : (T1 [y0, some d, y2, y3, y4, y5, y6, y7, y8, y9, y10, y11, y12, y13, y14, y15, y16, y17, y18]).wp QF WE := by
  unfold T1
  walk_at "kgh"
  refine drawn_ok hd fun w d1 e1 hw hl hd1 he1 => ?_
  rw [he1]
  walk_at "kgh"
  exact k w d1 hw hl hd1

theorem T2_ok (hw : LtAll w) (hl : w.length ≤ 12) (k : QF .nx [y0, y1, y2, some (encW w), some (encP (polyT w)), y5, y6, y7, y8, y9, y10, y11, y12, y13, y14, y15, y16, y17, y18]) : (T2 [y0, y1, y2, some (encW w), y4, y5, y6, y7, y8, y9, y10, y11, y12, y13, y14, y15, y16, y17, y18]).wp QF WE := by
  unfold T2
  walk_at "kgh"
  refine w_mono (trace_ok hw hl) fun p e hp => ?_
  subst hp
  walk_at "kgh"
  exact k

theorem T3_ok (hw : LtAll w) (hl : w.length ≤ 12) (k : QF .nx [y0, y1, y2, some (encW w), some (encP (polyT w)), y5, y6, y7, y8, y9, y10, y11, y12, y13, y14, y15, y16, y17, y18]) : (T3 [y0, y1, y2, some (encW w), some (encP (polyT w)), y5, y6, y7, y8, y9, y10, y11, y12, y13, y14, y15, y16, y17, y18]).wp QF WE := by
  have P := poly_ok hw hl
  have pl : (polyT w).length < lim := Nat.lt_of_le_of_lt P.len (by decide)
  have isP := poly_gen P.bx P.nz (Nat.le_of_lt pl)
  rw [asc_true P.asc] at isP
  unfold T3
  walk_at "kgh"
  refine w_mono isP fun x e hx => ?_
  subst hx
  walk_at "kgg"
  refine w_mono (trace_ok hw hl) fun p e hp => ?_
  subst hp
  walk_at "kgh"
  refine ⟨_, repr_poly P.bx P.sm P.len, ?_⟩
  walk_at "kgh"
  refine ⟨_, repr_poly P.bx P.sm P.len, _, ne_same (oTx_P _), ?_⟩
  walk_at "kgg"
  exact k

theorem T4_ok (hw : LtAll w) (hl : w.length ≤ 12) (k : QF .nx [y0, y1, y2, some (encW w), some (encP (polyT w)), y5, y6, y7, y8, y9, y10, y11, y12, y13, y14, y15, y16, y17, none]) : (T4 [y0, y1, y2, some (encW w), some (encP (polyT w)), y5, y6, y7, y8, y9, y10, y11, y12, y13, y14, y15, y16, y17, y18]).wp QF WE := by
  have P := poly_ok hw hl
  have pl : (polyT w).length < lim := Nat.lt_of_le_of_lt P.len (by decide)
  unfold T4
  walk_at "kgh"
  refine w_mono (no_polys P.asc P.bx P.nz pl) fun x e hx => ?_
  obtain ⟨xs, rfl, h1, h2⟩ := hx
  refine ⟨xs, rfl, Nat.le_trans h1 (by decide), ?_⟩
  refine w_mono (w_compM (fun _ => .bool false) [y0, y1, y2, some (encW w), some (encP (polyT w)), y5, y6, y7, y8, y9, y10, y11, y12, y13, y14, y15, y16, y17, none] _ _ rfl fun x hx => ?_) fun ys e ⟨hy, he⟩ => ?_
  · refine ⟨_, rfl, rfl, ?_⟩
    walk_at "kgh"
    refine w_mono (h2 x hx) fun d e hd => ?_
    subst hd
    walk_at "kgg"
    exact ⟨rfl, rfl⟩
  · subst hy
    rw [he]
    walk_at "kgh"
    refine ⟨_, any_false _, ?_⟩
    walk_at "kgg"
    refine w_mono big_ok fun x e hx => ?_
    subst hx
    walk_at "kgg"
    exact k

theorem S1_ok (hd : StO d) (k : ∀ (a b : Mt) (d' : PyData), a.det = 1 → b.det = 1 → a.le 1296 → b.le 1296 → StO d' → QF .nx [y0, some d', y2, y3, y4, y5, some (encM a), some (encM b), y8, y9, y10, y11, y12, y13, y14, y15, y16, y17, y18]) : (S1 [y0, some d, y2, y3, y4, y5, y6, y7, y8, y9, y10, y11, y12, y13, y14, y15, y16, y17, y18]).wp QF WE := by
  unfold S1
  walk_at "kgh"
  refine matrix_ok hd fun a d1 e1 a1 a2 hd1 he1 => ?_
  rw [he1]
  walk_at "kgh"
  refine matrix_ok hd1 fun b d2 e2 b1 b2 hd2 he2 => ?_
  rw [he2]
  refine ⟨_, rfl, _, rfl, ?_⟩
  exact k a b d2 a1 b1 a2 b2 hd2

theorem S2_ok {a b : Mt} (hb : b.le 1296) (k : QF .nx [y0, y1, y2, y3, y4, y5, some (encM a), some (encM b), some (encM (a.mul b)), y9, y10, y11, y12, y13, y14, y15, y16, y17, y18]) : (S2 [y0, y1, y2, y3, y4, y5, some (encM a), some (encM b), y8, y9, y10, y11, y12, y13, y14, y15, y16, y17, y18]).wp QF WE := by
  unfold S2
  walk_at "kgh"
  refine w_mono (by_ok (m := a) (sm_of hb (by decide))) fun x e hx => ?_
  subst hx
  walk_at "kgh"
  exact k

theorem ix_p (m : Mt) : ixA (encM m) (.int 0) = some (.int m.p) := rfl
theorem ix_s (m : Mt) : ixA (encM m) (.int 3) = some (.int m.s) := rfl
theorem S3_ok {a b : Mt} (k : QF .nx [y0, y1, y2, y3, y4, y5, some (encM a), some (encM b), some (encM (a.mul b)), some (.int (a.p + a.s)), some (.int (b.p + b.s)), some (.int ((a.mul b).p + (a.mul b).s)), y12, y13, y14, y15, y16, y17, y18]) : (S3 [y0, y1, y2, y3, y4, y5, some (encM a), some (encM b), some (encM (a.mul b)), y9, y10, y11, y12, y13, y14, y15, y16, y17, y18]).wp QF WE := by
  unfold S3
  repeat' first | walk_at "kg1" | (with_reducible refine w_op (ix_p _) ?_) | (with_reducible refine w_op (ix_s _) ?_) | (with_reducible refine w_op (by with_unfolding_all rfl) ?_) | fail
  exact ⟨_, _, _, _, _, _, rfl, rfl, rfl, rfl, k⟩

theorem S4_ok {a b : Mt} (hw : LtAll w) (ha : a.le 1296) (hb : b.le 1296) (k : QF .nx [y0, y1, y2, some (encW w), y4, y5, some (encM a), some (encM b), y8, y9, y10, y11, some (.int (along a b w Mt.one).tr), y13, y14, y15, y16, y17, y18]) : (S4 [y0, y1, y2, some (encW w), y4, y5, some (encM a), some (encM b), y8, y9, y10, y11, y12, y13, y14, y15, y16, y17, y18]).wp QF WE := by
  unfold S4
  walk_at "kgh"
  refine w_mono (along_ok hw ha hb) fun x e hx => ?_
  subst hx
  walk_at "kgh"
  exact k

theorem S5_ok {a b : Mt} (hw : LtAll w) (hl : w.length ≤ 12) (a1 : a.det = 1) (b1 : b.det = 1) (ha : a.le 1296) (hb : b.le 1296) (k : QF .nx [y0, y1, y2, some (encW w), some (encP (polyT w)), y5, y6, y7, y8, some (.int (a.p + a.s)), some (.int (b.p + b.s)), some (.int ((a.mul b).p + (a.mul b).s)), some (.int (along a b w Mt.one).tr), y13, y14, y15, y16, y17, y18]) : (S5 [y0, y1, y2, some (encW w), some (encP (polyT w)), y5, y6, y7, y8, some (.int (a.p + a.s)), some (.int (b.p + b.s)), some (.int ((a.mul b).p + (a.mul b).s)), some (.int (along a b w Mt.one).tr), y13, y14, y15, y16, y17, y18]).wp QF WE := by
  obtain ⟨h1, h2⟩ := value_same (poly_ok hw hl) a1 b1 ha hb hl
  unfold S5
  walk_at "kgh"
  refine w_mono h1 fun x e hx => ?_
  subst hx
  walk_at "kgh"
  refine ⟨_, h2, ?_⟩
  walk_at "kgh"
  refine ⟨_, h2, _, ne_same (oTx_int _), ?_⟩
  walk_at "kgg"
  refine w_mono h1 fun x e hx => ?_
  subst hx
  walk_at "kgh"
  refine ⟨_, ne_int _ _, ?_⟩
  walk_at "kgh"
  refine w_spf (by simp) ?_
  walk_at "kgh"
  exact k

theorem T5_ok (hw : LtAll w) (hl : w.length ≤ 12) (hd : StO d) (k : ∀ (d' : PyData) (y5 y6 y7 y8 y9 y10 y11 y12 : Option PyData), StO d' → QF .nx [y0, some d', y2, some (encW w), some (encP (polyT w)), y5, y6, y7, y8, y9, y10, y11, y12, y13, y14, y15, y16, y17, y18]) : (T5 [y0, some d, y2, some (encW w), some (encP (polyT w)), y5, y6, y7, y8, y9, y10, y11, y12, y13, y14, y15, y16, y17, y18]).wp QF WE := by
  rw [T5_eq]
  walk_at "kgh"
  refine ⟨3, rfl, by decide, ?_⟩
  refine w_loop (fun _ e => ∃ (d' : PyData) (y5 y6 y7 y8 y9 y10 y11 y12 : Option PyData), StO d' ∧ e = [y0, some d', y2, some (encW w), some (encP (polyT w)), y5, y6, y7, y8, y9, y10, y11, y12, y13, y14, y15, y16, y17, y18]) ?_ ?_ _ _ ⟨d, _, _, _, _, _, _, _, _, hd, rfl⟩
  · rintro e ⟨d', y5, y6, y7, y8, y9, y10, y11, y12, hd', rfl⟩
    exact k d' _ _ _ _ _ _ _ _ hd'
  · rintro x ds e ⟨d', y5, y6, y7, y8, y9, y10, y11, y12, hd', rfl⟩
    refine ⟨_, rfl, ?_⟩
    refine w_seq (S1_ok hd' fun a b d2 a1 b1 a2 b2 hd2 => ?_)
    refine nxC_nx (w_seq (S2_ok b2 (nxC_nx (w_seq (S3_ok (nxC_nx (w_seq (S4_ok hw a2 b2 (nxC_nx (S5_ok hw hl a1 b1 a2 b2 ?_))))))))))
    exact ⟨d2, _, _, _, _, _, _, _, _, hd2, rfl⟩

end

set_option linter.all false
set_option maxRecDepth 100000
set_option maxHeartbeats 2000000
open DV PySem L2
open PyProof.Rows hiding St
section
variable {y0 y1 y2 y3 y4 y5 y6 y7 y8 y9 y10 y11 y12 y13 y14 y15 y16 y17 y18 : Option PyData} {QF : Fl → DV.Env → Prop} {w : List Int} {d : PyData} {r l : Int}

theorem T6_ok (hd : StO d) (hl : w.length ≤ 12) (k : ∀ (r : Int) (d' : PyData), 0 ≤ r → r ≤ w.length → StO d' → QF .nx [y0, some d', y2, some (encW w), y4, y5, y6, y7, y8, y9, y10, y11, y12, some (.int r), y14, y15, y16, y17, y18]) : (T6 [y0, some d, y2, some (encW w), y4, y5, y6, y7, y8, y9, y10, y11, y12, y13, y14, y15, y16, y17, y18]).wp QF WE := by
  unfold T6
  walk_at "kgh"
  refine ⟨_, len_w w, ?_⟩
  walk_at "kgg"
  refine draw_ok (many := (w.length : Int) + 1) hd (by omega) (by omega) fun r d1 e1 h0 h1 hd1 he1 => ?_
  rw [he1]
  walk_at "kgh"
  exact k r d1 h0 (by omega) hd1

theorem T7_ok (hl : w.length ≤ 12) (k : QF .nx [y0, y1, y2, some (encW w), y4, y5, y6, y7, y8, y9, y10, y11, y12, y13, some (encW (back w)), none, y16, y17, y18]) : (T7 [y0, y1, y2, some (encW w), y4, y5, y6, y7, y8, y9, y10, y11, y12, y13, y14, y15, y16, y17, y18]).wp QF WE := by
  unfold T7
  walk_at "kgh"
  refine ⟨_, rev_w w, ?_⟩
  walk_at "kgh"
  refine ⟨w.reverse.map PyData.int, rfl, ?_, ?_⟩
  · rw [List.length_map, List.length_reverse]
    exact Nat.le_trans hl (by decide)
  have zs : w.reverse.map PyData.int = ((w.reverse.map fun l => (PyData.int l, PyData.int (-l)))).map (·.1) := by rw [List.map_map]; rfl
  rw [zs]
  refine w_mono (w_compZ [y0, y1, y2, some (encW w), y4, y5, y6, y7, y8, y9, y10, y11, y12, y13, y14, none, y16, y17, y18] _ _ rfl fun z hz => ?_) fun ys e ⟨hy, he⟩ => ?_
  · obtain ⟨l, _, rfl⟩ := List.mem_map.mp hz
    refine ⟨_, rfl, rfl, ?_⟩
    walk_at "kgg"
    exact ⟨rfl, rfl⟩
  · rw [he]
    walk_at "kgh"
    refine ⟨encW (back w), ?_, ?_⟩
    · rw [hy, List.map_map]
      unfold encW back
      rw [List.map_map]
      rfl
    · walk_at "kgh"
      exact k

theorem T8_ok (hd : StO d) (k : ∀ (l : Int) (d' : PyData), Lt l → StO d' → QF .nx [y0, some d', y2, y3, y4, y5, y6, y7, y8, y9, y10, y11, y12, y13, y14, some (.int l), y16, y17, y18]) : (T8 [y0, some d, y2, y3, y4, y5, y6, y7, y8, y9, y10, y11, y12, y13, y14, y15, y16, y17, y18]).wp QF WE := by
  unfold T8
  walk_at "kgg"
  refine draw_ok (many := 4) hd (by decide) (by decide) fun r d1 e1 h0 h1 hd1 he1 => ?_
  rw [he1]
  obtain ⟨l, q1, q2⟩ := letter_at h0 h1
  refine ⟨_, q1, ?_⟩
  walk_at "kgh"
  exact k l d1 q2 hd1

theorem T9_ok (hl : w.length ≤ 12) (h0 : 0 ≤ r) (h1 : r ≤ w.length) (k : QF .nx [y0, y1, y2, some (encW w), y4, y5, y6, y7, y8, y9, y10, y11, y12, some (.int r), y14, some (.int l), some (encW (w.take r.toNat ++ [l, -l] ++ w.drop r.toNat)), y17, y18]) : (T9 [y0, y1, y2, some (encW w), y4, y5, y6, y7, y8, y9, y10, y11, y12, some (.int r), y14, some (.int l), y16, y17, y18]).wp QF WE := by
  unfold T9
  walk_at "kgh"
  refine ⟨r, rfl, _, sl_take w h0 h1, ?_⟩
  walk_at "kgh"
  refine ⟨.int (-l), rfl, ?_⟩
  walk_at "kgh"
  refine ⟨_, add_w (u := w.take r.toNat) (v := [l, -l]) (by rw [List.length_take]; omega) (by simp), ?_⟩
  walk_at "kgh"
  refine ⟨r, rfl, ?_⟩
  walk_at "kgh"
  refine ⟨_, sl_drop w h0 h1, ?_⟩
  refine ⟨_, add_w (u := w.take r.toNat ++ [l, -l]) (v := w.drop r.toNat) (by simp only [List.length_append, List.length_take, List.length_cons, List.length_nil]; omega) (by rw [List.length_drop]; omega), ?_⟩
  walk_at "kgh"
  exact k

theorem others_body {u : List Int} (hw : LtAll w) (hl : w.length ≤ 12) (s : Same w u) (k : QF .nx [y0, y1, y2, some (encW w), some (encP (polyT w)), y5, y6, y7, y8, y9, y10, y11, y12, y13, y14, y15, y16, some (encW u), y18]) : (ifS (asB (bin2 neD (nary (one reprF) (consA (callE f_trace_of [] (consA (varE 17) nilA)) nilA)) (nary (one reprF) (consA (varE 4) nilA)))) (retS (cstE (.bool false))) (nilS) [y0, y1, y2, some (encW w), some (encP (polyT w)), y5, y6, y7, y8, y9, y10, y11, y12, y13, y14, y15, y16, some (encW u), y18]).wp QF WE := by
  have P := poly_ok hw hl
  walk_at "kgh"
  refine w_mono (trace_ok s.lt s.len) fun p e hp => ?_
  subst hp
  rw [s.eq]
  walk_at "kgh"
  refine ⟨_, repr_poly P.bx P.sm P.len, ?_⟩
  walk_at "kgh"
  refine ⟨_, repr_poly P.bx P.sm P.len, _, ne_same (oTx_P _), ?_⟩
  walk_at "kgg"
  exact k

theorem T10_ok (hw : LtAll w) (hl : w.length ≤ 12) (h0 : 0 ≤ r) (h1 : r ≤ w.length) (hlt : Lt l) (k : ∀ y17 : Option PyData, QF .nx [y0, y1, y2, some (encW w), some (encP (polyT w)), y5, y6, y7, y8, y9, y10, y11, y12, some (.int r), some (encW (back w)), some (.int l), some (encW (w.take r.toNat ++ [l, -l] ++ w.drop r.toNat)), y17, y18]) : (T10 [y0, y1, y2, some (encW w), some (encP (polyT w)), y5, y6, y7, y8, y9, y10, y11, y12, some (.int r), some (encW (back w)), some (.int l), some (encW (w.take r.toNat ++ [l, -l] ++ w.drop r.toNat)), y17, y18]).wp QF WE := by
  have loop : ∀ us : List (List Int), (∀ u ∈ us, Same w u) → (loopS (nameG 17) (ifS (asB (bin2 neD (nary (one reprF) (consA (callE f_trace_of [] (consA (varE 17) nilA)) nilA)) (nary (one reprF) (consA (varE 4) nilA)))) (retS (cstE (.bool false))) (nilS)) (us.map encW) [y0, y1, y2, some (encW w), some (encP (polyT w)), y5, y6, y7, y8, y9, y10, y11, y12, some (.int r), some (encW (back w)), some (.int l), some (encW (w.take r.toNat ++ [l, -l] ++ w.drop r.toNat)), y17, y18]).wp QF WE := by
    intro us hus
    refine w_loop (fun ds e => (∀ x ∈ ds, ∃ u, x = encW u ∧ Same w u) ∧ ∃ y17 : Option PyData, e = [y0, y1, y2, some (encW w), some (encP (polyT w)), y5, y6, y7, y8, y9, y10, y11, y12, some (.int r), some (encW (back w)), some (.int l), some (encW (w.take r.toNat ++ [l, -l] ++ w.drop r.toNat)), y17, y18]) ?_ ?_ _ _ ⟨fun x hx => ?_, _, rfl⟩
    · rintro e ⟨_, y17, rfl⟩
      exact k y17
    · rintro x ds e ⟨h, y17, rfl⟩
      obtain ⟨u, rfl, s⟩ := h x (List.mem_cons_self ..)
      refine ⟨_, rfl, ?_⟩
      refine others_body (u := u) hw hl s ?_
      exact ⟨fun y hy => h y (List.mem_cons_of_mem _ hy), _, rfl⟩
    · obtain ⟨u, hu, rfl⟩ := List.mem_map.mp hx
      exact ⟨u, rfl, hus u hu⟩
  have s1 := same_rot hw hl r.toNat
  have s2 := same_back hw hl
  have s3 := same_red hw hl
  unfold T10
  walk_at "kgh"
  refine ⟨r, rfl, ?_⟩
  walk_at "kgh"
  refine ⟨_, sl_drop w h0 h1, ?_⟩
  walk_at "kgh"
  refine ⟨r, rfl, _, sl_take w h0 h1, ?_⟩
  refine ⟨_, add_w (u := w.drop r.toNat) (v := w.take r.toNat) (by rw [List.length_drop]; omega) (by rw [List.length_take]; omega), ?_⟩
  walk_at "kgh"
  refine w_mono (reduced2_ok hw hl) fun x e hx => ?_
  subst hx
  walk_at "kgh"
  refine ⟨_, len_w w, ?_⟩
  walk_at "kgh"
  refine ⟨_, rfl, ?_⟩
  walk_at "kgh"
  refine w_sp (fun h => ?_) (fun h => ?_)
  · have h11 : w.length < 11 := by
      have := of_decide_eq_true h
      omega
    have s4 := same_ins hw h11 r.toNat hlt
    walk_at "kgh"
    refine ⟨.list ([w.drop r.toNat ++ w.take r.toNat, back w, red [] w, w.take r.toNat ++ [l, -l] ++ w.drop r.toNat].map encW), rfl, ?_⟩
    refine ⟨_, rfl, ?_⟩
    refine loop _ fun u hu => ?_
    simp only [List.mem_cons, List.not_mem_nil, or_false] at hu
    rcases hu with rfl | rfl | rfl | rfl <;> assumption
  · walk_at "kgh"
    refine ⟨.list ([w.drop r.toNat ++ w.take r.toNat, back w, red [] w].map encW), rfl, ?_⟩
    refine ⟨_, rfl, ?_⟩
    refine loop _ fun u hu => ?_
    simp only [List.mem_cons, List.not_mem_nil, or_false] at hu
    rcases hu with rfl | rfl | rfl <;> assumption

theorem T11_ok (hw : LtAll w) (hl : w.length ≤ 12) (hlt : Lt l) (k : QF .nx [y0, y1, y2, some (encW w), some (encP (polyT w)), y5, y6, y7, y8, y9, y10, y11, y12, y13, y14, some (.int l), y16, y17, y18]) : (T11 [y0, y1, y2, some (encW w), some (encP (polyT w)), y5, y6, y7, y8, y9, y10, y11, y12, y13, y14, some (.int l), y16, y17, y18]).wp QF WE := by
  have P := poly_ok hw hl
  unfold T11
  walk_at "kgh"
  refine ⟨_, len_w w, ?_⟩
  walk_at "kgh"
  refine ⟨_, rfl, ?_⟩
  walk_at "kgh"
  refine w_sp (fun h => ?_) (fun h => ?_)
  · have h11 : w.length < 11 := by
      have := of_decide_eq_true h
      omega
    have s := same_conj hw h11 hlt
    walk_at "kgh"
    refine ⟨_, add_w (u := [l]) (v := w) (by simp) (by omega), ?_⟩
    walk_at "kgh"
    refine ⟨.int (-l), rfl, ?_⟩
    walk_at "kgh"
    refine ⟨_, add_w (u := [l] ++ w) (v := [-l]) (by simp; omega) (by simp), ?_⟩
    walk_at "kgh"
    refine w_mono (trace_ok s.lt s.len) fun p e hp => ?_
    subst hp
    rw [s.eq]
    walk_at "kgh"
    refine ⟨_, repr_poly P.bx P.sm P.len, ?_⟩
    walk_at "kgh"
    refine ⟨_, repr_poly P.bx P.sm P.len, _, ne_same (oTx_P _), ?_⟩
    walk_at "kgg"
    exact k
  · walk_at "kgg"
    exact k

end

set_option linter.all false
set_option maxRecDepth 100000
set_option maxHeartbeats 2000000
open DV PySem L2
open PyProof.Rows hiding St
theorem law_ok {zs : List Int} (hz : zs.length ≤ 63) : (f_law [.list (zs.map PyData.int)]).wp (fun d _ => d = .bool true) WE := by
  refine w_run ?_
  rw [F_law_eq]
  generalize hsc : PyData.list (zs.map PyData.int) = sc
  walk_at "kgh"
  rw [← hsc]
  refine w_mono (begin_ok hz) fun d e hd => ?_
  rw [hsc]
  walk_at "kgh"
  refine ⟨4, rfl, by decide, ?_⟩
  refine w_loop (LI sc) ?_ ?_ _ _ ⟨d, _, _, _, _, _, _, _, _, _, _, _, _, _, _, _, _, _, hd, rfl⟩
  · rintro e ⟨d, y2, y3, y4, y5, y6, y7, y8, y9, y10, y11, y12, y13, y14, y15, y16, y17, y18, _, rfl⟩
    walk_at "kgh"
    rfl
  · rintro t ds e ⟨d, y2, y3, y4, y5, y6, y7, y8, y9, y10, y11, y12, y13, y14, y15, y16, y17, y18, hd, rfl⟩
    refine ⟨_, rfl, ?_⟩
    refine w_seq (T1_ok hd fun w d1 hw hl hd1 => ?_)
    refine nxC_nx (w_seq (T2_ok hw hl (nxC_nx (w_seq (T3_ok hw hl (nxC_nx (w_seq (T4_ok hw hl (nxC_nx (w_seq (T5_ok hw hl hd1 fun d2 y5 y6 y7 y8 y9 y10 y11 y12 hd2 => ?_)))))))))))
    refine nxC_nx (w_seq (T6_ok hd2 hl fun r d3 r0 r1 hd3 => ?_))
    refine nxC_nx (w_seq (T7_ok hl (nxC_nx (w_seq (T8_ok hd3 fun l d4 hlt hd4 => ?_)))))
    refine nxC_nx (w_seq (T9_ok hl r0 r1 (nxC_nx (w_seq (T10_ok hw hl r0 r1 hlt fun y17 => nxC_nx (T11_ok hw hl hlt ?_))))))
    exact ⟨d4, _, _, _, _, _, _, _, _, _, _, _, _, _, _, _, _, _, hd4, rfl⟩
theorem plain (zs : List Int) (hz : zs.length ≤ 63) : ∃ e, f_law [.list (zs.map PyData.int)] = .ok (.bool true) e := by
  obtain ⟨a, e, h1, h2⟩ := w_get (law_ok hz)
  exact ⟨e, by rw [h1, h2]⟩

end K28
set_option Elab.async false
set_option linter.all false
set_option maxRecDepth 100000
set_option maxHeartbeats 0
namespace DV
open PySem PySem.Spec PyProof.Rows L2
abbrev rowL : PySem.W.OpenLaw := PySem.Challenge.rw_wholecurves_k28_whole_traces_at_matrices
abbrev rowR : PySem.W.OpenRow := PySem.W.OpenLaw.row rowL
def ls0 : List Str := ["CurveError", "InvalidNumber", "InvalidWord", "InvalidPolynomial", "is_integer", "is_natural", "are_integers", "check_integer", "check_between", "is_word_in", "reduced_in", "X", "Y", "Z", "is_polynomial", "summed", "by_first", "by_second", "by_letter", "trace_of", "value_of", "check_letters", "reduced", "_law_begin", "_law_draw", "_law_word", "_law_by", "_law_matrix", "_law_along", "_law_no_polynomials"]
def lsAll : List Str := ls0
abbrev hkL : PySem.W.Hook := He.hookX 4 faL fnL [] [] exL
def obL (s : PySem.W.SharedT) : He.AlX := He.obsX 4 faL fnL [] [] exL (HandSHeadRun.getT s)
theorem obL_eq (s : PySem.W.SharedT) : obL s = hkL.obs s.abs := He.obsX_eq (HandSHeadRun.getT_eq s)
theorem runL (w : World) : HandSHeadRun.RunEq rowR (PySem.W.view rowR.prog [36]) hkL obL 3000 lsAll w := by
  intro os
  kernel_rfl
end DV
open PySem PySem.W PySem.Calls PyProof.Rows
theorem DV.holds_of (plain : ∀ zs : List Int, zs.length ≤ 63 → ∃ e, DV.f_law [.list (zs.map PyData.int)] = .ok (.bool true) e) : PySem.Challenge.rw_wholecurves_k28_whole_traces_at_matrices.Holds := by
  w_on; o_law
  refine HandSHeadRun.head_any (r := DV.rowR) (q := view DV.rowR.prog [36]) (H := DV.hkL) (ob := DV.obL) (M := 3000) (loose := DV.lsAll) (d := HandSHeadRun.topDef DV.rowR.prog 36) (kwd := []) DV.obL_eq
    (by kernel_rfl) (fun _ => by kernel_rfl) DV.runL (by kernel_rfl) (by kernel_rfl) (by kernel_rfl) rfl (by first | assumption | decide +kernel) (by decide +kernel) ⟨rfl, rfl, rfl, rfl, rfl, by decide +kernel⟩ ?wit ?walk
  case wit => w_witness2
  case walk =>
    refine DV.walk_dv (l := DV.rowL) (n := 63) (k := 6) (x := "script") (f := DV.f_law) rfl (by decide) (by kernel_rfl) ⟨rfl, by decide, by decide⟩ ?F plain
    intro w g a h ⟨K, X, c⟩ G at0
    have ea : (HandSHeadRun.topDef DV.rowR.prog 36).name = ("law" : PySem.Str) := by kernel_rfl
    rw [ea] at at0
    have c' := c.t.d
    have ga := DV.glo_of c' X G (x := "law") (by decide +kernel)
    rw [ga] at at0
    cases at0
    obtain ⟨fd, D⟩ := c'.def_ 23 (d := DV.df_law) rfl
    have b := L2.FunD.bindsA (ps := ["script"]) D fun _ _ _ _ _ _ us hl => match us, hl with | [_], _ => rfl
    exact ⟨K, fd, X, fun s v => b s [v] rfl, fun base X1 G1 => DV.ok_law c' c.more X1 G1 D⟩

theorem PySem.Challenge.cw_wholecurves_k28_whole_traces_at_matrices_holds : PySem.Challenge.rw_wholecurves_k28_whole_traces_at_matrices.Holds :=
  DV.holds_of K28.plain
