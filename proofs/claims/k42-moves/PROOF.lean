import PyProof.Rows.All
import Wide.All
import OpenK.AllK
import Wide.FinOn
import HandS.ForMost
import HandS.Exc
import HandS.TryOnly
import HandS.ExcOwn
import HandS.WordsExc
import HandS.TupAny
import HandS.Deep
import HandS.HeadHook1
import HandS.TupMul
import HandS.IsInst
import HandS.Style
import HandS.Conv
import PyProof.ListStr
import PyProof.TupleOfStr
import HandS.NoneIn
import HandS.Defaults
import HandS.Strs
import HandS.SetKeys
import HandS.More
import KE.KStateDown
import HandS.Ends
import HandS.Words
import HandS.Head0
import HandS.Head1
import HandS.Head2
import HandS.HeadEnd
import HandS.HeadHook2
import HandS.TryMany
import PyProof.ExcBaseAll.ValueError
import KE.GoesEnum
import HandS.Iter
import HandS.CallLocal
import HandS.CallSlots
import HandS.Dict
import HandS.Star
import HandS.Property
import KE.KOpsOwn
import KE.KExcSuper
import HandS.ExcSuper
import HandS.ExcInit
import HandS.RaiseMore
import HandS.Text
import HandS.ExcField
import HandS.ClsMeth
import HandS.HeadNt
import PySem.Challenge.RW_toparranged_k42_moves_put_together
set_option Elab.async false
set_option linter.all false
set_option maxRecDepth 100000
set_option maxHeartbeats 4000000
/-! DL1: data over the hand layer: values as PyData, states, steps. -/
namespace DL
open PySem PySem.Spec PyProof.Rows L2

mutual
/-- the value v is the datum, all of it in the fixed part F -/
inductive Dr (K : PySem.W.Frag) (F : Hp) : V → PyData → Prop
  | non : Dr K F .non .none
  | bl (b : Bool) : Dr K F (.bl b) (.bool b)
  | int (i : Int) : Dr K F (.int i) (.int i)
  | str (x : Str) : Dr K F (.str x) (.str x)
  | lst {a : Addr} {vs : List V} {xs : List PyData} : F a = some (.lst vs) → DrAll K F vs xs → Dr K F (.ref a) (.list xs)
  | tup {a : Addr} {vs : List V} {xs : List PyData} : SqT K F a vs → DrAll K F vs xs → Dr K F (.ref a) (.tuple xs)
  | dct {a : Addr} {ks : List (Key × V)} {xs : List (PyData × PyData)} : F a = some (.dK ks) → DrKv K F ks xs → Dr K F (.ref a) (.dict xs)
inductive DrAll (K : PySem.W.Frag) (F : Hp) : List V → List PyData → Prop
  | nil : DrAll K F [] []
  | cons {v : V} {vs : List V} {d : PyData} {ds : List PyData} : Dr K F v d → DrAll K F vs ds → DrAll K F (v :: vs) (d :: ds)
inductive DrKv (K : PySem.W.Frag) (F : Hp) : List (Key × V) → List (PyData × PyData) → Prop
  | nil : DrKv K F [] []
  | cons {k : Str} {v : V} {vs : List (Key × V)} {d : PyData} {ds : List (PyData × PyData)} : Dr K F v d → DrKv K F vs ds → DrKv K F ((.inr k, v) :: vs) ((.str k, d) :: ds)
end

theorem same_t {K : PySem.W.Frag} {H H' : Hp} {a : Addr} {xs : List V} (e : Same H H') (h : SqT K H a xs) : SqT K H' a xs := by
  rcases h with (h | ⟨o, h⟩) | h
  · exact .inl (.inl (e _ _ h))
  · exact .inl (.inr ⟨o, e _ _ h⟩)
  · exact .inr h
theorem same_l {K : PySem.W.Frag} {H H' : Hp} {a : Addr} {xs : List V} (e : Same H H') (h : SqL K H a xs) : SqL K H' a xs := e.seq h

section
variable {K : PySem.W.Frag} {F F' : Hp}
mutual
theorem Dr.mono (e : Same F F') : ∀ {v : V} {d : PyData}, Dr K F v d → Dr K F' v d
  | _, _, .non => .non
  | _, _, .bl b => .bl b
  | _, _, .int i => .int i
  | _, _, .str x => .str x
  | _, _, .lst h r => .lst (e _ _ h) (DrAll.mono e r)
  | _, _, .tup h r => .tup (same_t e h) (DrAll.mono e r)
  | _, _, .dct h r => .dct (e _ _ h) (DrKv.mono e r)
theorem DrAll.mono (e : Same F F') : ∀ {vs : List V} {ds : List PyData}, DrAll K F vs ds → DrAll K F' vs ds
  | _, _, .nil => .nil
  | _, _, .cons h r => .cons (Dr.mono e h) (DrAll.mono e r)
theorem DrKv.mono (e : Same F F') : ∀ {vs : List (Key × V)} {ds : List (PyData × PyData)}, DrKv K F vs ds → DrKv K F' vs ds
  | _, _, .nil => .nil
  | _, _, .cons h r => .cons (Dr.mono e h) (DrKv.mono e r)
end
theorem DrAll.length : ∀ {vs : List V} {ds : List PyData}, DrAll K F vs ds → vs.length = ds.length
  | _, _, .nil => rfl
  | _, _, .cons _ r => by rw [List.length_cons, List.length_cons, DrAll.length r]
theorem DrKv.length : ∀ {vs : List (Key × V)} {ds : List (PyData × PyData)}, DrKv K F vs ds → vs.length = ds.length
  | _, _, .nil => rfl
  | _, _, .cons _ r => by rw [List.length_cons, List.length_cons, DrKv.length r]
theorem DrAll.append : ∀ {vs ws : List V} {ds es : List PyData}, DrAll K F vs ds → DrAll K F ws es → DrAll K F (vs ++ ws) (ds ++ es)
  | _, _, _, _, .nil, s => s
  | _, _, _, _, .cons h r, s => .cons h (DrAll.append r s)
theorem DrAll.take : ∀ {vs : List V} {ds : List PyData} (n : Nat), DrAll K F vs ds → DrAll K F (vs.take n) (ds.take n)
  | _, _, 0, _ => .nil
  | _, _, _ + 1, .nil => .nil
  | _, _, n + 1, .cons h r => .cons h (DrAll.take n r)
theorem DrAll.drop : ∀ {vs : List V} {ds : List PyData} (n : Nat), DrAll K F vs ds → DrAll K F (vs.drop n) (ds.drop n)
  | _, _, 0, r => r
  | _, _, _ + 1, .nil => .nil
  | _, _, n + 1, .cons _ r => DrAll.drop n r
theorem DrAll.get : ∀ {vs : List V} {ds : List PyData} {i : Nat} {d : PyData}, DrAll K F vs ds → ds[i]? = some d → ∃ v, vs[i]? = some v ∧ Dr K F v d
  | _, _, i, d, .nil, e => by simp at e
  | _, _, 0, d, .cons h r, e => by
    simp at e
    subst e
    exact ⟨_, rfl, h⟩
  | _, _, i + 1, d, .cons h r, e => DrAll.get (i := i) r (by simpa using e)
theorem DrAll.get' : ∀ {vs : List V} {ds : List PyData} {i : Nat} {v : V}, DrAll K F vs ds → vs[i]? = some v → ∃ d, ds[i]? = some d ∧ Dr K F v d
  | _, _, i, d, .nil, e => by simp at e
  | _, _, 0, d, .cons h r, e => by
    simp at e
    subst e
    exact ⟨_, rfl, h⟩
  | _, _, i + 1, d, .cons h r, e => DrAll.get' (i := i) r (by simpa using e)
theorem DrAll.rep {vs : List V} {ds : List PyData} (h : DrAll K F vs ds) : ∀ k : Nat, DrAll K F (List.replicate k vs).flatten (List.replicate k ds).flatten
  | 0 => .nil
  | k + 1 => by
    rw [List.replicate_succ, List.replicate_succ, List.flatten_cons, List.flatten_cons]
    exact h.append (h.rep k)
theorem DrAll.reverse : ∀ {vs : List V} {ds : List PyData}, DrAll K F vs ds → DrAll K F vs.reverse ds.reverse
  | _, _, .nil => .nil
  | _, _, .cons h r => by
    rw [List.reverse_cons, List.reverse_cons]
    exact (DrAll.reverse r).append (.cons h .nil)
theorem DrAll.ints : ∀ (ns : List Int), DrAll K F (ns.map V.int) (ns.map PyData.int)
  | [] => .nil
  | n :: ns => .cons (.int n) (DrAll.ints ns)
theorem DrAll.set {v : V} {d : PyData} (q : Dr K F v d) : ∀ {vs : List V} {ds : List PyData} (i : Nat), DrAll K F vs ds → DrAll K F (vs.set i v) (ds.set i d)
  | _, _, _, .nil => .nil
  | _, _, 0, .cons _ r => .cons q r
  | _, _, i + 1, .cons h r => .cons h (DrAll.set q i r)
theorem DrAll.eraseIdx : ∀ {vs : List V} {ds : List PyData} (i : Nat), DrAll K F vs ds → DrAll K F (vs.eraseIdx i) (ds.eraseIdx i)
  | _, _, _, .nil => .nil
  | _, _, 0, .cons _ r => r
  | _, _, i + 1, .cons h r => .cons h (DrAll.eraseIdx i r)
end

/-! ### the values of the denotations -/
/-- objects that nobody changes, told by a tag: lo: a list of which nothing is known -/
inductive Tag where
  | lo
def RepTag (K : PySem.W.Frag) (F : Hp) (v : V) : Tag → Prop
  | .lo => ∃ a vs, v = .ref a ∧ F a = some (.lst vs)
theorem RepTag.mono {K : PySem.W.Frag} {F F' : Hp} {v : V} {t : Tag} (e : Same F F') (h : RepTag K F v t) : RepTag K F' v t := by
  cases t with
  | lo =>
    obtain ⟨a, vs, e1, e2⟩ := h
    exact ⟨a, vs, e1, e _ _ e2⟩
theorem RepTag.ref {K : PySem.W.Frag} {F : Hp} {v : V} {t : Tag} (h : RepTag K F v t) : ∃ a, v = .ref a := by
  cases t with
  | lo =>
    obtain ⟨a, vs, e1, e2⟩ := h
    exact ⟨a, e1⟩
/-- d: a datum that nobody changes; own: a fresh list of nobody else's; bor: the list of an own slot, read; ref: a cell of the store; scr: the script; opq: a value as it is; fn: a def of the text, by its name -/
inductive EV where
  | d (x : PyData)
  | own (xs : List PyData)
  | bor (xs : List PyData)
  | ownD (ks : List (PyData × PyData))
  | borD (ks : List (PyData × PyData))
  | ref (l : Nat)
  | scr (ns : List Int)
  | opq (v : V)
  | fn (x : Str)
  | tag (t : Tag)
/-- a cell of the store: a list that is changed by reference, an object -/
inductive Cell where
  | lst (xs : List PyData)
  | obj (c : Str) (fs : List (Str × EV))
abbrev Store := List Cell
abbrev Env := List (Option EV)
/-- an exception: its class's name, its one field -/
structure Exc where
  cls : Str
  fld : Option (Str × PyData)
inductive RE where
  | ok (v : EV) (S : Store)
  | raise (e : Exc) (S : Store)
  | stuck
inductive RA where
  | ok (vs : List EV) (S : Store)
  | raise (e : Exc) (S : Store)
  | stuck
inductive RS where
  | next (env : Env) (S : Store)
  | ret (v : EV) (S : Store)
  | brk (env : Env) (S : Store)
  | cont (env : Env) (S : Store)
  | raise (e : Exc) (env : Env) (S : Store)
  | stuck
abbrev DE := Env → Store → RE
abbrev DA := Env → Store → RA
abbrev DS := Env → Store → RS
/-- a def: its arguments, the store -/
abbrev DF := List EV → Store → RE

def EV.isOwn : EV → Bool
  | .own _ => true
  | .ownD _ => true
  | _ => false
/-- what is read of a value now -/
def EV.view (S : Store) : EV → Option PyData
  | .d x => some x
  | .own xs => some (.list xs)
  | .bor xs => some (.list xs)
  | .ownD ks => some (.dict ks)
  | .borD ks => some (.dict ks)
  | .ref l => match S[l]? with
    | some (.lst xs) => some (.list xs)
    | _ => none
  | _ => none

section
variable (K : PySem.W.Frag) (ca : Str → Addr)
def RepV (F : Hp) (ρ : List Addr) (H0 H : Hp) (v : V) : EV → Prop
  | .d x => Dr K F v x
  | .own xs => ∃ a vs, v = .ref a ∧ H0 a = none ∧ H a = some (.lst vs) ∧ F a = none ∧ a ∉ ρ ∧ DrAll K F vs xs
  | .ownD xs => ∃ a ks, v = .ref a ∧ H0 a = none ∧ H a = some (.dK ks) ∧ F a = none ∧ a ∉ ρ ∧ DrKv K F ks xs
  | .bor _ => False
  | .borD _ => False
  | .ref l => ∃ a, v = .ref a ∧ ρ[l]? = some a
  | .scr ns => ∃ a, v = .ref a ∧ SqL K F a (ns.map V.int)
  | .opq w => v = w
  | .fn x => v = .ref (He.ga K x)
  | .tag t => RepTag K F v t
/-- a field's value -/
def RepF (F : Hp) (ρ : List Addr) (v : V) : EV → Prop
  | .d x => Dr K F v x
  | .ref l => ∃ a, v = .ref a ∧ ρ[l]? = some a
  | _ => False
def CellRep (F : Hp) (ρ : List Addr) (H : Hp) (a : Addr) : Cell → Prop
  | .lst xs => ∃ vs, H a = some (.lst vs) ∧ DrAll K F vs xs
  | .obj c fs => ∃ dx vs, H a = some (.ins (ca c) dx vs) ∧ Paired (fun (p : Str × V) (q : Str × EV) => p.1 = q.1 ∧ RepF K F ρ p.2 q.2) vs fs

/-- the abstract state stands for the heap and the slots. H0: the heap at the def's entry (own lists are younger) -/
structure Sim (H0 F : Hp) (ρ : List Addr) (S : Store) (env : Env) (σ : L2.St) (H : Hp) : Prop where
  fz : Same F H
  len : ρ.length = S.length
  nd : ρ.Nodup
  rfz : ∀ a, a ∈ ρ → F a = none
  cell : ∀ (l : Nat) (a : Addr) (c : Cell), ρ[l]? = some a → S[l]? = some c → CellRep K ca F ρ H a c
  lenE : env.length = σ.length
  slot : ∀ (i : Nat) (ev : EV), env[i]? = some (some ev) → ∃ v, σ[i]? = some (some v) ∧ RepV K F ρ H0 H v ev
  ownD : ∀ (i j : Nat) (ei ej : EV) (a : Addr), env[i]? = some (some ei) → env[j]? = some (some ej) → ei.isOwn = true → ej.isOwn = true → σ[i]? = some (some (.ref a)) → σ[j]? = some (some (.ref a)) → i = j
end
structure Stp (F H : Hp) (ρ : List Addr) (F' H' : Hp) (ρ' : List Addr) : Prop where
  fz : Same F F'
  nfz : ∀ a, F a = none → F' a ≠ none → H a = none
  rho : ∃ new, ρ' = ρ ++ new ∧ ∀ a, a ∈ new → H a = none
  fr : ∀ a o, a ∉ ρ → H a = some o → H' a = some o
  mono : ∀ a, H' a = none → H a = none
theorem Stp.refl (F H : Hp) (ρ : List Addr) : Stp F H ρ F H ρ :=
  ⟨Same.refl _, fun a h h' => absurd h h', ⟨[], by simp, by simp⟩, fun _ _ _ h => h, fun _ h => h⟩
theorem Stp.trans {F H F1 H1 F2 H2 : Hp} {ρ ρ1 ρ2 : List Addr} (a : Stp F H ρ F1 H1 ρ1) (b : Stp F1 H1 ρ1 F2 H2 ρ2) : Stp F H ρ F2 H2 ρ2 := by
  obtain ⟨n1, e1, h1⟩ := a.rho
  obtain ⟨n2, e2, h2⟩ := b.rho
  refine ⟨a.fz.trans b.fz, fun x hx hx2 => ?_, ⟨n1 ++ n2, by rw [e2, e1, List.append_assoc], fun x hx => ?_⟩, fun x o hx ho => ?_, fun x hx => a.mono x (b.mono x hx)⟩
  · cases q : F1 x with
    | none => exact a.mono x (b.nfz x q hx2)
    | some o => exact a.nfz x hx (by rw [q]; exact fun z => nomatch z)
  · rcases List.mem_append.mp hx with z | z
    · exact h1 x z
    · exact a.mono x (h2 x z)
  · refine b.fr x o (fun z => ?_) (a.fr x o hx ho)
    rw [e1] at z
    rcases List.mem_append.mp z with z | z
    · exact hx z
    · rw [h1 x z] at ho
      cases ho
theorem Stp.mem {F H F1 H1 : Hp} {ρ ρ1 : List Addr} (a : Stp F H ρ F1 H1 ρ1) {x : Addr} (h : x ∈ ρ) : x ∈ ρ1 := by
  obtain ⟨n1, e1, _⟩ := a.rho
  rw [e1]
  exact List.mem_append_left _ h
theorem Stp.rget {F H F1 H1 : Hp} {ρ ρ1 : List Addr} (a : Stp F H ρ F1 H1 ρ1) {l : Nat} {x : Addr} (h : ρ[l]? = some x) : ρ1[l]? = some x := by
  obtain ⟨n1, e1, _⟩ := a.rho
  rw [e1, List.getElem?_append_left (List.getElem?_eq_some_iff.mp h).1]
  exact h
theorem Stp.notin {F H F1 H1 : Hp} {ρ ρ1 : List Addr} (a : Stp F H ρ F1 H1 ρ1) {x : Addr} {o : HO} (h : x ∉ ρ) (hx : H x = some o) : x ∉ ρ1 := by
  obtain ⟨n1, e1, hn⟩ := a.rho
  rw [e1]
  intro z
  rcases List.mem_append.mp z with z | z
  · exact h z
  · rw [hn x z] at hx
    cases hx
theorem Stp.unfz {F H F1 H1 : Hp} {ρ ρ1 : List Addr} (a : Stp F H ρ F1 H1 ρ1) {x : Addr} {o : HO} (h : F x = none) (hx : H x = some o) : F1 x = none := by
  cases q : F1 x with
  | none => rfl
  | some u =>
    have := a.nfz x h (by rw [q]; exact fun z => nomatch z)
    rw [hx] at this
    cases this

section
variable {K : PySem.W.Frag} {ca : Str → Addr} {H0 F H F' H' F1 H1 : Hp} {ρ ρ' ρ1 : List Addr} {S S' : Store} {env : Env} {σ : L2.St} {v : V} {ev : EV}
theorem RepF.mono (e : Same F F') (hr : ∀ (l : Nat) (x : Addr), ρ[l]? = some x → ρ'[l]? = some x) (h : RepF K F ρ v ev) : RepF K F' ρ' v ev := by
  cases ev with
  | d x => exact Dr.mono e h
  | ref l =>
    obtain ⟨a, e1, e2⟩ := h
    exact ⟨a, e1, hr _ _ e2⟩
  | _ => exact h.elim
/-- a value that was had keeps its meaning over a step -/
theorem RepV.step {B : Hp} (s : Stp F H ρ F' H' ρ') (h : RepV K F ρ B H v ev) : RepV K F' ρ' B H' v ev := by
  cases ev with
  | d x => exact Dr.mono s.fz h
  | own xs =>
    obtain ⟨a, vs, e1, e2, e3, e4, e5, e6⟩ := h
    exact ⟨a, vs, e1, e2, s.fr _ _ e5 e3, s.unfz e4 e3, s.notin e5 e3, DrAll.mono s.fz e6⟩
  | ownD xs =>
    obtain ⟨a, vs, e1, e2, e3, e4, e5, e6⟩ := h
    exact ⟨a, vs, e1, e2, s.fr _ _ e5 e3, s.unfz e4 e3, s.notin e5 e3, DrKv.mono s.fz e6⟩
  | bor xs => exact h.elim
  | borD xs => exact h.elim
  | ref l =>
    obtain ⟨a, e1, e2⟩ := h
    exact ⟨a, e1, s.rget e2⟩
  | scr ns =>
    obtain ⟨a, e1, e2⟩ := h
    exact ⟨a, e1, same_l s.fz e2⟩
  | opq w => exact h
  | fn w => exact h
  | tag t => exact RepTag.mono (K := K) (t := t) s.fz h
theorem RepV.base {B B' : Hp} (hb : ∀ a, B a = none → B' a = none) (h : RepV K F ρ B H v ev) : RepV K F ρ B' H v ev := by
  cases ev with
  | own xs =>
    obtain ⟨a, vs, e1, e2, e3⟩ := h
    exact ⟨a, vs, e1, hb a e2, e3⟩
  | ownD xs =>
    obtain ⟨a, vs, e1, e2, e3⟩ := h
    exact ⟨a, vs, e1, hb a e2, e3⟩
  | _ => exact h
theorem CellRep.there {a : Addr} {c : Cell} (h : CellRep K ca F ρ H a c) : H a ≠ none := by
  cases c with
  | lst xs =>
    obtain ⟨vs, e, _⟩ := h
    rw [e]
    exact fun z => nomatch z
  | obj c fs =>
    obtain ⟨dx, vs, e, _⟩ := h
    rw [e]
    exact fun z => nomatch z
theorem Sim.there (s : Sim K ca H0 F ρ S env σ H) {a : Addr} (h : a ∈ ρ) : H a ≠ none := by
  obtain ⟨l, hl, e⟩ := List.mem_iff_getElem.mp h
  have hS : l < S.length := by rw [← s.len]; exact hl
  exact (s.cell l a S[l] (by rw [List.getElem?_eq_getElem hl, e]) (List.getElem?_eq_getElem hS)).there
theorem Sim.notin (s : Sim K ca H0 F ρ S env σ H) {a : Addr} (h : H a = none) : a ∉ ρ := fun z => s.there z h
theorem Sim.unfz (s : Sim K ca H0 F ρ S env σ H) {a : Addr} (h : H a = none) : F a = none := by
  cases q : F a with
  | none => rfl
  | some o =>
    rw [s.fz _ _ q] at h
    cases h
/-- nothing that the state speaks of has changed -/
theorem Sim.of (s : Sim K ca H0 F ρ S env σ H) (f : Same F F') (g : Same F' H') (c : ∀ a, a ∈ ρ → F' a = none ∧ ∀ o, H a = some o → H' a = some o)
    (o : ∀ (i : Nat) (ev : EV) (a : Addr), env[i]? = some (some ev) → ev.isOwn = true → σ[i]? = some (some (.ref a)) → F' a = none ∧ ∀ o, H a = some o → H' a = some o) : Sim K ca H0 F' ρ S env σ H' := by
  refine ⟨g, s.len, s.nd, fun a ha => (c a ha).1, fun l a cl e1 e2 => ?_, s.lenE, fun i ev e => ?_, s.ownD⟩
  · have h := s.cell l a cl e1 e2
    have hc := (c a (List.mem_of_getElem? e1)).2
    cases cl with
    | lst xs =>
      obtain ⟨vs, e3, e4⟩ := h
      exact ⟨vs, hc _ e3, DrAll.mono f e4⟩
    | obj cn fs =>
      obtain ⟨dx, vs, e3, e4⟩ := h
      exact ⟨dx, vs, hc _ e3, Paired.mapP e4 fun p q z => ⟨z.1, RepF.mono f (fun _ _ z => z) z.2⟩⟩
  · obtain ⟨v, e1, e2⟩ := s.slot i ev e
    refine ⟨v, e1, ?_⟩
    cases ev with
    | d x => exact Dr.mono f e2
    | own xs =>
      obtain ⟨a, vs, r1, r2, r3, r4, r5, r6⟩ := e2
      subst r1
      obtain ⟨q1, q2⟩ := o i _ a e rfl e1
      exact ⟨a, vs, rfl, r2, q2 _ r3, q1, r5, DrAll.mono f r6⟩
    | ownD xs =>
      obtain ⟨a, vs, r1, r2, r3, r4, r5, r6⟩ := e2
      subst r1
      obtain ⟨q1, q2⟩ := o i _ a e rfl e1
      exact ⟨a, vs, rfl, r2, q2 _ r3, q1, r5, DrKv.mono f r6⟩
    | bor xs => exact e2.elim
    | borD xs => exact e2.elim
    | ref l => exact e2
    | scr ns =>
      obtain ⟨a, r1, r2⟩ := e2
      exact ⟨a, r1, same_l f r2⟩
    | opq w => exact e2
    | fn w => exact e2
    | tag t => exact RepTag.mono (K := K) (t := t) f e2
theorem Sim.own_at (s : Sim K ca H0 F ρ S env σ H) {i : Nat} {a : Addr} (e : env[i]? = some (some ev)) (o : ev.isOwn = true) (e2 : σ[i]? = some (some (.ref a))) : F a = none ∧ H0 a = none ∧ a ∉ ρ ∧ H a ≠ none := by
  obtain ⟨v, e1, h⟩ := s.slot i ev e
  rw [e2] at e1
  cases e1
  cases ev with
  | own xs =>
    obtain ⟨b, vs, r1, r2, r3, r4, r5, r6⟩ := h
    cases r1
    exact ⟨r4, r2, r5, by rw [r3]; exact fun z => nomatch z⟩
  | ownD xs =>
    obtain ⟨b, vs, r1, r2, r3, r4, r5, r6⟩ := h
    cases r1
    exact ⟨r4, r2, r5, by rw [r3]; exact fun z => nomatch z⟩
  | _ => cases o
/-- a new object, of which nothing is said -/
theorem Sim.alloc (s : Sim K ca H0 F ρ S env σ H) {p : Addr} {o : HO} (hp : H p = none) : Sim K ca H0 F ρ S env σ (upd H p o) := by
  have hs : Same H (upd H p o) := fun b u e => by
    rw [upd_ne (ne_of_none e hp)]
    exact e
  exact s.of (Same.refl _) (s.fz.trans hs) (fun a ha => ⟨s.rfz a ha, hs a⟩) fun i ev a e1 e2 e3 => ⟨(s.own_at e1 e2 e3).1, hs a⟩
theorem Stp.alloc {p : Addr} {o : HO} (hp : H p = none) : Stp F H ρ F (upd H p o) ρ :=
  ⟨Same.refl _, fun a h h' => absurd h h', ⟨[], by simp, by simp⟩, fun a u _ e => by rw [upd_ne (ne_of_none e hp)]; exact e, fun a e => by
    by_cases z : a = p
    · rw [z]; exact hp
    · rw [upd_ne z] at e; exact e⟩
/-- an object that is nobody's is fixed -/
theorem Sim.fix (s : Sim K ca H0 F ρ S env σ H) {p : Addr} {o : HO} (hp : H p = some o) (hF : F p = none) (hr : p ∉ ρ) (hs : ∀ (i : Nat) (ev : EV), env[i]? = some (some ev) → ev.isOwn = true → σ[i]? ≠ some (some (.ref p))) :
    Sim K ca H0 (upd F p o) ρ S env σ H := by
  have f : Same F (upd F p o) := fun b u e => by
    rw [upd_ne (ne_of_none e hF)]
    exact e
  refine s.of f (fun b u e => ?_) (fun a ha => ⟨?_, fun _ e => e⟩) fun i ev a e1 e2 e3 => ⟨?_, fun _ e => e⟩
  · by_cases z : b = p
    · subst z
      rw [upd_same] at e
      rw [hp]
      exact e
    · rw [upd_ne z] at e
      exact s.fz _ _ e
  · have z : a ≠ p := fun z => hr (by rw [← z]; exact ha)
    rw [upd_ne z]
    exact s.rfz a ha
  · have z : a ≠ p := fun z => hs i ev e1 e2 (by rw [← z]; exact e3)
    rw [upd_ne z]
    exact (s.own_at e1 e2 e3).1
theorem same_fix {p : Addr} {o : HO} (hF : F p = none) : Same F (upd F p o) := fun b u e => by
  rw [upd_ne (ne_of_none e hF)]
  exact e
/-- .. where it is younger than B -/
theorem Stp.fix {B FB : Hp} {ρB : List Addr} (s : Stp FB B ρB F H ρ) {p : Addr} {o : HO} (hB : B p = none) (hF : F p = none) : Stp FB B ρB (upd F p o) H ρ := by
  refine ⟨s.fz.trans (same_fix hF), fun a h1 h2 => ?_, s.rho, s.fr, s.mono⟩
  by_cases z : a = p
  · rw [z]; exact hB
  · rw [upd_ne z] at h2
    exact s.nfz a h1 h2
end
end DL

set_option Elab.async false
set_option linter.all false
set_option maxRecDepth 100000
set_option maxHeartbeats 4000000
/-! DL2: expressions as denotations. -/
namespace DL
open PySem PySem.Spec PyProof.Rows L2

def RE.bind : RE → (EV → Store → RE) → RE
  | .ok v S, k => k v S
  | .raise e S, _ => .raise e S
  | .stuck, _ => .stuck
def RE.bindA : RE → (EV → Store → RA) → RA
  | .ok v S, k => k v S
  | .raise e S, _ => .raise e S
  | .stuck, _ => .stuck
def RA.bind : RA → (List EV → Store → RE) → RE
  | .ok v S, k => k v S
  | .raise e S, _ => .raise e S
  | .stuck, _ => .stuck
def RA.bindA : RA → (List EV → Store → RA) → RA
  | .ok v S, k => k v S
  | .raise e S, _ => .raise e S
  | .stuck, _ => .stuck
def RE.bindS : RE → Env → (EV → Store → RS) → RS
  | .ok v S, _, k => k v S
  | .raise e S, env, _ => .raise e env S
  | .stuck, _, _ => .stuck
def RA.bindS : RA → Env → (List EV → Store → RS) → RS
  | .ok v S, _, k => k v S
  | .raise e S, env, _ => .raise e env S
  | .stuck, _, _ => .stuck
def RS.bind : RS → (Env → Store → RS) → RS
  | .next env S, k => k env S
  | r, _ => r

section
variable (K : PySem.W.Frag) (ca : Str → Addr)
/-- a state that is reached: its step, what it stands for -/
structure Now (H0 : Hp) (env : Env) (σ : L2.St) (F H : Hp) (ρ : List Addr) (F' H' : Hp) (ρ' : List Addr) (S' : Store) : Prop where
  stp : Stp F H ρ F' H' ρ'
  sim : Sim K ca H0 F' ρ' S' env σ H'
def RepE (F : Hp) (ρ : List Addr) (B : Hp) (env : Env) (σ : L2.St) (H : Hp) (v : V) : EV → Prop
  | .bor xs => ∃ (i : Nat) (a : Addr), env[i]? = some (some (.own xs)) ∧ σ[i]? = some (some (.ref a)) ∧ v = .ref a
  | .borD ks => ∃ (i : Nat) (a : Addr), env[i]? = some (some (.ownD ks)) ∧ σ[i]? = some (some (.ref a)) ∧ v = .ref a
  | ev => RepV K F ρ B H v ev
def ExcRep (F H : Hp) (cls : Value) (d : Option Addr) (e : Exc) : Prop :=
  cls = .ref (ca e.cls) ∧ match e.fld with
    | none => d = none
    | some (f, x) => ∃ dd v, d = some dd ∧ H dd = some (.xd [(f, v)]) ∧ Dr K F v x
variable (W : WX)
def PostE (H0 : Hp) (env : Env) (σ : L2.St) (F H : Hp) (ρ : List Addr) (Q : VK) : RE → Prop
  | .ok r S' => ∀ v F' H' ρ', Now K ca H0 env σ F H ρ F' H' ρ' S' → RepE K F' ρ' H env σ H' v r → Q v H'
  | .raise ex S' => ∀ cls d F' H' ρ', Now K ca H0 env σ F H ρ F' H' ρ' S' → ExcRep K ca F' H' cls d ex → W cls d σ H'
  | .stuck => False
/-- a test's -/
def PostT (H0 : Hp) (env : Env) (σ : L2.St) (F H : Hp) (ρ : List Addr) (Q : Bool → Hp → Prop) : RE → Prop
  | .ok (.d (.bool b)) S' => ∀ F' H' ρ', Now K ca H0 env σ F H ρ F' H' ρ' S' → Q b H'
  | .raise ex S' => ∀ cls d F' H' ρ', Now K ca H0 env σ F H ρ F' H' ρ' S' → ExcRep K ca F' H' cls d ex → W cls d σ H'
  | _ => False
def PostA (H0 : Hp) (env : Env) (σ : L2.St) (F H : Hp) (ρ : List Addr) (Q : List V → Hp → Prop) : RA → Prop
  | .ok rs S' => ∀ vs F' H' ρ', Now K ca H0 env σ F H ρ F' H' ρ' S' → Paired (fun v r => RepV K F' ρ' H H' v r) vs rs → Q vs H'
  | .raise ex S' => ∀ cls d F' H' ρ', Now K ca H0 env σ F H ρ F' H' ρ' S' → ExcRep K ca F' H' cls d ex → W cls d σ H'
  | .stuck => False
def dTE (f : DE) : TE := fun σ H Q => ∃ H0 F ρ S env, Sim K ca H0 F ρ S env σ H ∧ PostE K ca W H0 env σ F H ρ Q (f env S)
def dTT (f : DE) : TT := fun σ H Q => ∃ H0 F ρ S env, Sim K ca H0 F ρ S env σ H ∧ PostT K ca W H0 env σ F H ρ Q (f env S)
def dTA (f : DA) : TA := fun σ H Q => ∃ H0 F ρ S env, Sim K ca H0 F ρ S env σ H ∧ PostA K ca W H0 env σ F H ρ Q (f env S)
end
abbrev JE (X : Cx) (ca : Str → Addr) (W : WX) (e : Expr) (f : DE) : Prop := PE X e (dTE X.K ca W f)
abbrev JT (X : Cx) (ca : Str → Addr) (W : WX) (e : Expr) (f : DE) : Prop := PT X e (dTT X.K ca W f)
abbrev JW (X : Cx) (ca : Str → Addr) (W : WX) (e : Expr) (f : DE) : Prop := PW X e (dTT X.K ca W f)
abbrev JA (X : Cx) (ca : Str → Addr) (W : WX) (es : List Expr) (f : DA) : Prop := PA X es (dTA X.K ca W f)

theorem imp_e {X : Cx} {e : Expr} {t t' : TE} (h : PE X e t) (i : ∀ σ H Q, t' σ H Q → t σ H Q) : PE X e t' := ⟨fun pins s σ H Q I q => h.run pins s σ H Q I (i σ H Q q)⟩
theorem imp_t {X : Cx} {e : Expr} {t t' : TT} (h : PT X e t) (i : ∀ σ H Q, t' σ H Q → t σ H Q) : PT X e t' := ⟨fun pins s σ H Q I q => h.run pins s σ H Q I (i σ H Q q)⟩
theorem imp_w {X : Cx} {e : Expr} {t t' : TT} (h : PW X e t) (i : ∀ σ H Q, t' σ H Q → t σ H Q) : PW X e t' := ⟨fun wh pins s σ H Q I q => h.run wh pins s σ H Q I (i σ H Q q)⟩
theorem imp_a {X : Cx} {es : List Expr} {t t' : TA} (h : PA X es t) (i : ∀ σ H Q, t' σ H Q → t σ H Q) : PA X es t' := ⟨fun pos pins s σ H Q I q => h.run pos pins s σ H Q I (i σ H Q q)⟩

section
variable {K : PySem.W.Frag} {ca : Str → Addr} {W : WX} {H0 F H F' H' F1 H1 F2 H2 B : Hp} {ρ ρ' ρ1 ρ2 : List Addr} {S S' S1 S2 : Store} {env : Env} {σ : L2.St} {v : V} {ev : EV} {Q : VK}
theorem RepE.ofV (h : RepV K F ρ B H v ev) : RepE K F ρ B env σ H v ev := by
  cases ev with
  | bor xs => exact h.elim
  | borD xs => exact h.elim
  | _ => exact h
theorem RepE.step (s : Stp F H ρ F' H' ρ') (h : RepE K F ρ B env σ H v ev) : RepE K F' ρ' B env σ H' v ev := by
  cases ev with
  | bor xs => exact h
  | borD xs => exact h
  | d x => exact RepV.step (K := K) (ev := .d x) (B := B) s h
  | own x => exact RepV.step (ev := .own x) s h
  | ownD x => exact RepV.step (ev := .ownD x) s h
  | ref x => exact RepV.step (K := K) (ev := .ref x) (B := B) s h
  | scr x => exact RepV.step (K := K) (ev := .scr x) (B := B) s h
  | opq x => exact h
  | fn x => exact h
  | tag t => exact RepV.step (K := K) (ev := .tag t) (B := B) s h
theorem RepE.base {B' : Hp} (hb : ∀ a, B a = none → B' a = none) (h : RepE K F ρ B env σ H v ev) : RepE K F ρ B' env σ H v ev := by
  cases ev with
  | bor xs => exact h
  | borD xs => exact h
  | d x => exact h
  | own x => exact RepV.base (ev := .own x) hb h
  | ownD x => exact RepV.base (ev := .ownD x) hb h
  | ref x => exact h
  | scr x => exact h
  | opq x => exact h
  | fn x => exact h
  | tag x => exact h
/-- what is seen of a value: a list, a dict as it stands now; all else fixed -/
def Vw (K : PySem.W.Frag) (F H : Hp) (v : V) : PyData → Prop
  | .list xs => ∃ a vs, v = .ref a ∧ H a = some (.lst vs) ∧ DrAll K F vs xs
  | .dict ks => ∃ a vs, v = .ref a ∧ H a = some (.dK vs) ∧ DrKv K F vs ks
  | x => Dr K F v x
theorem vw_dr (f : Same F H) {x : PyData} (h : Dr K F v x) : Vw K F H v x := by
  cases h with
  | lst h r => exact ⟨_, _, rfl, f _ _ h, r⟩
  | dct h r => exact ⟨_, _, rfl, f _ _ h, r⟩
  | tup h r => exact .tup h r
  | non => exact .non
  | bl b => exact .bl b
  | int b => exact .int b
  | str b => exact .str b
theorem vw_of (s : Sim K ca H0 F ρ S env σ H) (r : RepE K F ρ B env σ H v ev) {x : PyData} (e : ev.view S = some x) : Vw K F H v x := by
  cases ev with
  | d y =>
    cases e
    exact vw_dr s.fz r
  | own xs =>
    cases e
    obtain ⟨a, vs, e1, _, e3, _, _, e6⟩ := r
    exact ⟨a, vs, e1, e3, e6⟩
  | ownD xs =>
    cases e
    obtain ⟨a, vs, e1, _, e3, _, _, e6⟩ := r
    exact ⟨a, vs, e1, e3, e6⟩
  | bor xs =>
    cases e
    obtain ⟨i, a, e1, e2, e3⟩ := r
    obtain ⟨v', e4, e5⟩ := s.slot i _ e1
    rw [e2] at e4
    cases e4
    obtain ⟨a', vs, r1, _, r3, _, _, r6⟩ := e5
    cases r1
    exact ⟨a, vs, e3, r3, r6⟩
  | borD xs =>
    cases e
    obtain ⟨i, a, e1, e2, e3⟩ := r
    obtain ⟨v', e4, e5⟩ := s.slot i _ e1
    rw [e2] at e4
    cases e4
    obtain ⟨a', vs, r1, _, r3, _, _, r6⟩ := e5
    cases r1
    exact ⟨a, vs, e3, r3, r6⟩
  | ref l =>
    obtain ⟨a, e1, e2⟩ := r
    unfold EV.view at e
    cases q : S[l]? with
    | none =>
      simp only [q] at e
      cases e
    | some c =>
      cases c with
      | obj cn fs =>
        simp only [q] at e
        cases e
      | lst xs =>
        simp only [q] at e
        cases e
        obtain ⟨vs, e3, e4⟩ := s.cell l a _ e2 q
        exact ⟨a, vs, e1, e3, e4⟩
  | scr ns => cases e
  | opq w => cases e
  | fn w => cases e
  | tag w => cases e
theorem drAll_dp {G : Hp} : ∀ {vs : List V} {xs : List PyData}, (∀ v x, x ∈ xs → Dr K F v x → x.canLay0 = true → Dp K G v x) → DrAll K F vs xs → PyData.canLayAll0 xs = true → DpAll K G vs xs
  | [], [], _, .nil, _ => .nil
  | _ :: _, x :: xs, h, .cons r rs, c => by
    have c' : x.canLay0 = true ∧ PyData.canLayAll0 xs = true := by simpa [PyData.canLayAll0] using c
    exact .cons (h _ _ List.mem_cons_self r c'.1) (drAll_dp (fun v y hy => h v y (List.mem_cons_of_mem _ hy)) rs c'.2)
theorem dp_of (f : Same F H) : ∀ (x : PyData) (v : V), Dr K F v x → x.canLay0 = true → Dp K H v x
  | .none, _, h, _ => by cases h; exact .non
  | .bool b, _, h, _ => by cases h; exact .bl b
  | .int b, _, h, _ => by cases h; exact .int b
  | .str b, _, h, _ => by cases h; exact .str b
  | .list xs, v, h, c => by
    cases h with
    | lst h r => exact .lst (SqL.of (f _ _ h)) (drAll_dp (fun v x hx => dp_of f x v) r (by simpa [PyData.canLay0] using c))
  | .tuple xs, v, h, c => by
    cases h with
    | tup h r => exact .tup (same_t f h) (drAll_dp (fun v x hx => dp_of f x v) r (by simpa [PyData.canLay0] using c))
  | .dict xs, v, h, c => by simp [PyData.canLay0] at c
theorem vw_dp (f : Same F H) {x : PyData} (h : Vw K F H v x) (c : x.canLay0 = true) : Dp K H v x := by
  cases x with
  | list xs =>
    obtain ⟨a, vs, e1, e2, e3⟩ := h
    subst e1
    exact .lst (SqL.of e2) (drAll_dp (fun v x _ => dp_of f x v) e3 (by simpa [PyData.canLay0] using c))
  | dict xs => simp [PyData.canLay0] at c
  | none => exact dp_of f _ _ h c
  | bool b => exact dp_of f _ _ h c
  | int b => exact dp_of f _ _ h c
  | str b => exact dp_of f _ _ h c
  | tuple b => exact dp_of f _ _ h c
/-! ### what a new object gives -/
theorem Now.newT (n : Now K ca H0 env σ F H ρ F' H' ρ' S') {p : Addr} {vs : List V} (hp : H' p = none) : Now K ca H0 env σ F H ρ (upd F' p (.tup vs)) (upd H' p (.tup vs)) ρ' S' := by
  have s1 := n.sim.alloc (o := .tup vs) hp
  have t1 := n.stp.trans (Stp.alloc (o := .tup vs) hp)
  have hF := n.sim.unfz hp
  exact ⟨t1.fix (n.stp.mono p hp) hF, s1.fix upd_same hF (n.sim.notin hp) fun i ev e1 e2 e3 => (n.sim.own_at e1 e2 e3).2.2.2 hp⟩
theorem Now.newO (n : Now K ca H0 env σ F H ρ F' H' ρ' S') {p : Addr} {o : HO} (hp : H' p = none) : Now K ca H0 env σ F H ρ F' (upd H' p o) ρ' S' :=
  ⟨n.stp.trans (Stp.alloc hp), n.sim.alloc hp⟩
theorem fin_t {xs : List PyData} {vs : List V} (n : Now K ca H0 env σ F H ρ F' H' ρ' S') (po : PostE K ca W H0 env σ F H ρ Q (.ok (.d (.tuple xs)) S')) (r : DrAll K F' vs xs) {p : Addr} (hp : H' p = none) : Q (.ref p) (upd H' p (.tup vs)) := by
  have hF := n.sim.unfz hp
  exact po _ _ _ _ (n.newT hp) (show Dr K _ _ _ from .tup (.inl (.inl upd_same)) (r.mono (same_fix hF)))
theorem fin_l {xs : List PyData} {vs : List V} (n : Now K ca H0 env σ F H ρ F' H' ρ' S') (po : PostE K ca W H0 env σ F H ρ Q (.ok (.own xs) S')) (r : DrAll K F' vs xs) {p : Addr} (hp : H' p = none) : Q (.ref p) (upd H' p (.lst vs)) := by
  have hF := n.sim.unfz hp
  exact po _ _ _ _ (n.newO hp) ⟨p, vs, rfl, n.stp.mono p hp, upd_same, hF, n.sim.notin hp, r⟩
theorem fin_d {x : PyData} (n : Now K ca H0 env σ F H ρ F' H' ρ' S') (po : PostE K ca W H0 env σ F H ρ Q (.ok (.d x) S')) (r : Dr K F' v x) : Q v H' := po _ _ _ _ n r
/-- an own list, an own dict, that is fixed from now on -/
def EV.fixed : EV → Option EV
  | .d x => some (.d x)
  | .own xs => some (.d (.list xs))
  | .ownD ks => some (.d (.dict ks))
  | .ref l => some (.ref l)
  | .scr ns => some (.scr ns)
  | .opq w => some (.opq w)
  | .fn x => some (.fn x)
  | .tag x => some (.tag x)
  | _ => none
theorem Now.fix (n : Now K ca H0 env σ F H ρ F' H' ρ' S') {a : Addr} {o : HO} (h1 : H a = none) (h2 : H' a = some o) (h3 : F' a = none) (h4 : a ∉ ρ') (hm : ∀ b, H b = none → ∀ (i : Nat) (ev : EV), env[i]? = some (some ev) → ev.isOwn = true → σ[i]? ≠ some (some (.ref b))) :
    Now K ca H0 env σ F H ρ (upd F' a o) H' ρ' S' := ⟨n.stp.fix h1 h3, n.sim.fix h2 h3 h4 (hm a h1)⟩
/-- own slots are older than what is reckoned -/
def Old (env : Env) (σ : L2.St) (H : Hp) : Prop := ∀ b, H b = none → ∀ (i : Nat) (ev : EV), env[i]? = some (some ev) → ev.isOwn = true → σ[i]? ≠ some (some (.ref b))
theorem Sim.old (s : Sim K ca H0 F ρ S env σ H) : Old env σ H := fun b hb i ev e1 e2 e3 => (s.own_at e1 e2 e3).2.2.2 hb
theorem Now.fixed (n : Now K ca H0 env σ F H ρ F' H' ρ' S') (hm : Old env σ H) (r : RepE K F' ρ' H env σ H' v ev) {ev' : EV} (e : ev.fixed = some ev') :
    ∃ F'', Now K ca H0 env σ F H ρ F'' H' ρ' S' ∧ Same F' F'' ∧ RepV K F'' ρ' H H' v ev' := by
  cases ev with
  | d x => cases e; exact ⟨F', n, Same.refl _, r⟩
  | own xs =>
    cases e
    obtain ⟨a, vs, e1, e2, e3, e4, e5, e6⟩ := r
    subst e1
    exact ⟨_, n.fix e2 e3 e4 e5 hm, same_fix e4, show Dr K _ _ _ from .lst upd_same (e6.mono (same_fix e4))⟩
  | ownD xs =>
    cases e
    obtain ⟨a, vs, e1, e2, e3, e4, e5, e6⟩ := r
    subst e1
    exact ⟨_, n.fix e2 e3 e4 e5 hm, same_fix e4, show Dr K _ _ _ from .dct upd_same (e6.mono (same_fix e4))⟩
  | bor xs => cases e
  | borD xs => cases e
  | ref l => cases e; exact ⟨F', n, Same.refl _, r⟩
  | scr l => cases e; exact ⟨F', n, Same.refl _, r⟩
  | opq l => cases e; exact ⟨F', n, Same.refl _, r⟩
  | fn l => cases e; exact ⟨F', n, Same.refl _, r⟩
  | tag l => cases e; exact ⟨F', n, Same.refl _, r⟩
end
end DL

set_option Elab.async false
set_option linter.all false
set_option maxRecDepth 100000
set_option maxHeartbeats 4000000
/-! DL3: the rules of expressions. -/
namespace DL
open PySem PySem.Spec PyProof.Rows L2

def RE.bindB : RE → (Bool → Store → RE) → RE
  | .ok (.d (.bool b)) S, k => k b S
  | .raise e S, _ => .raise e S
  | _, _ => .stuck
def RE.bindBS : RE → Env → (Bool → Store → RS) → RS
  | .ok (.d (.bool b)) S, _, k => k b S
  | .raise e S, env, _ => .raise e env S
  | _, _, _ => .stuck

section
variable {K : PySem.W.Frag} {ca : Str → Addr} {W : WX} {H0 F H F' H' F1 H1 F2 H2 B : Hp} {ρ ρ' ρ1 ρ2 : List Addr} {S S' S1 S2 : Store} {env : Env} {σ : L2.St} {v : V} {ev : EV} {Q : VK}
/-- the first part of a reading -/
theorem te1 {f : DE} {k : Env → EV → Store → RE} {R : VK} (h : dTE K ca W (fun env S => (f env S).bind (k env)) σ H Q)
    (hk : ∀ H0 F ρ S env, Sim K ca H0 F ρ S env σ H → ∀ x S1 v F1 H1 ρ1, Now K ca H0 env σ F H ρ F1 H1 ρ1 S1 → RepE K F1 ρ1 H env σ H1 v x → PostE K ca W H0 env σ F H ρ Q (k env x S1) → R v H1) : dTE K ca W f σ H R := by
  obtain ⟨H0, F, ρ, S, env, s, p⟩ := h
  refine ⟨H0, F, ρ, S, env, s, ?_⟩
  cases q : f env S with
  | ok x S1 =>
    simp only [q, RE.bind] at p
    exact fun v F1 H1 ρ1 n r => hk H0 F ρ S env s x S1 v F1 H1 ρ1 n r p
  | raise e S1 =>
    simp only [q, RE.bind] at p
    exact p
  | stuck =>
    simp only [q, RE.bind] at p
    exact p
/-- a further part -/
theorem te2 {g : DE} {k : EV → Store → RE} {R : VK} (n : Now K ca H0 env σ F H ρ F1 H1 ρ1 S1) (p : PostE K ca W H0 env σ F H ρ Q ((g env S1).bind k))
    (hk : ∀ y S2 v F2 H2 ρ2, Now K ca H0 env σ F H ρ F2 H2 ρ2 S2 → Stp F1 H1 ρ1 F2 H2 ρ2 → RepE K F2 ρ2 H1 env σ H2 v y → PostE K ca W H0 env σ F H ρ Q (k y S2) → R v H2) : dTE K ca W g σ H1 R := by
  refine ⟨H0, F1, ρ1, S1, env, n.sim, ?_⟩
  cases q : g env S1 with
  | ok x S2 =>
    simp only [q, RE.bind] at p
    exact fun v F2 H2 ρ2 n2 r => hk x S2 v F2 H2 ρ2 ⟨n.stp.trans n2.stp, n2.sim⟩ n2.stp r p
  | raise e S1 =>
    simp only [q, RE.bind] at p
    exact fun cls d F2 H2 ρ2 n2 r => p cls d F2 H2 ρ2 ⟨n.stp.trans n2.stp, n2.sim⟩ r
  | stuck =>
    simp only [q, RE.bind] at p
    exact p.elim
theorem tt1 {f : DE} {k : Env → Bool → Store → RE} {R : Bool → Hp → Prop} (h : dTE K ca W (fun env S => (f env S).bindB (k env)) σ H Q)
    (hk : ∀ H0 F ρ S env, Sim K ca H0 F ρ S env σ H → ∀ b S1 F1 H1 ρ1, Now K ca H0 env σ F H ρ F1 H1 ρ1 S1 → PostE K ca W H0 env σ F H ρ Q (k env b S1) → R b H1) : dTT K ca W f σ H R := by
  obtain ⟨H0, F, ρ, S, env, s, p⟩ := h
  refine ⟨H0, F, ρ, S, env, s, ?_⟩
  have p' : PostE K ca W H0 env σ F H ρ Q ((f env S).bindB (k env)) := p
  clear p
  revert p'
  cases q : f env S with
  | ok x S1 =>
    cases x with
    | d x =>
      cases x with
      | bool b => exact fun p F1 H1 ρ1 n => hk H0 F ρ S env s b S1 F1 H1 ρ1 n p
      | _ => exact fun p => p
    | _ => exact fun p => p
  | raise e S1 => exact fun p => p
  | stuck => exact fun p => p
theorem tt_te {f : DE} {R : Bool → Hp → Prop} (h : dTT K ca W f σ H R) : dTE K ca W f σ H (fun x H1 => ∃ k, x = .bl k ∧ R k H1) := by
  obtain ⟨H0, F, ρ, S, env, s, p⟩ := h
  refine ⟨H0, F, ρ, S, env, s, ?_⟩
  revert p
  cases q : f env S with
  | ok x S1 =>
    cases x with
    | d x =>
      cases x with
      | bool b =>
        refine fun p v F1 H1 ρ1 n r => ⟨b, ?_, p F1 H1 ρ1 n⟩
        cases r
        rfl
      | _ => exact fun p => p.elim
    | _ => exact fun p => p.elim
  | raise e S1 => exact fun p => p
  | stuck => exact fun p => p
/-- one test behind another -/
theorem tt2 {f : DE} {k : Env → Bool → Store → RE} {R R' : Bool → Hp → Prop} (h : dTT K ca W (fun env S => (f env S).bindB (k env)) σ H R)
    (hk : ∀ H0 F ρ S env, Sim K ca H0 F ρ S env σ H → ∀ b S1 F1 H1 ρ1, Now K ca H0 env σ F H ρ F1 H1 ρ1 S1 → PostT K ca W H0 env σ F H ρ R (k env b S1) → R' b H1) : dTT K ca W f σ H R' := by
  obtain ⟨H0, F, ρ, S, env, s, p⟩ := h
  refine ⟨H0, F, ρ, S, env, s, ?_⟩
  have p' : PostT K ca W H0 env σ F H ρ R ((f env S).bindB (k env)) := p
  clear p
  revert p'
  cases q : f env S with
  | ok x S1 =>
    cases x with
    | d x =>
      cases x with
      | bool b => exact fun p F1 H1 ρ1 n => hk H0 F ρ S env s b S1 F1 H1 ρ1 n p
      | _ => exact fun p => p
    | _ => exact fun p => p
  | raise e S1 => exact fun p => p
  | stuck => exact fun p => p
/-- from a state that is reached on -/
theorem PostE.on {r : RE} (n : Now K ca H0 env σ F H ρ F1 H1 ρ1 S1) (p : PostE K ca W H0 env σ F H ρ Q r) : PostE K ca W H0 env σ F1 H1 ρ1 Q r := by
  cases r with
  | ok x S2 => exact fun v F2 H2 ρ2 n2 r => p v F2 H2 ρ2 ⟨n.stp.trans n2.stp, n2.sim⟩ (r.base n.stp.mono)
  | raise e S2 => exact fun cls d F2 H2 ρ2 n2 r => p cls d F2 H2 ρ2 ⟨n.stp.trans n2.stp, n2.sim⟩ r
  | stuck => exact p
theorem PostT.on {r : RE} {R : Bool → Hp → Prop} (n : Now K ca H0 env σ F H ρ F1 H1 ρ1 S1) (p : PostT K ca W H0 env σ F H ρ R r) : PostT K ca W H0 env σ F1 H1 ρ1 R r := by
  revert p
  cases r with
  | ok x S2 =>
    cases x with
    | d x =>
      cases x with
      | bool b => exact fun p F2 H2 ρ2 n2 => p F2 H2 ρ2 ⟨n.stp.trans n2.stp, n2.sim⟩
      | _ => exact fun p => p
    | _ => exact fun p => p
  | raise e S2 => exact fun p cls d F2 H2 ρ2 n2 r => p cls d F2 H2 ρ2 ⟨n.stp.trans n2.stp, n2.sim⟩ r
  | stuck => exact fun p => p
end

/-! ### two-place operations -/
def RE2 (k : EV → EV → Store → RE) (fa fb : DE) : DE := fun env S => (fa env S).bind fun x S1 => (fb env S1).bind fun y S2 => k x y S2
def RE1 (k : EV → Store → RE) (fa : DE) : DE := fun env S => (fa env S).bind k
def toRE (S : Store) : Option EV → RE
  | some r => .ok r S
  | none => .stuck
def vOp (g : PyData → PyData → Option EV) : EV → EV → Store → RE := fun x y S => match x.view S, y.view S with
  | some a, some b => toRE S (g a b)
  | _, _ => .stuck
def vUn (g : PyData → Option EV) : EV → Store → RE := fun x S => match x.view S with
  | some a => toRE S (g a)
  | none => .stuck
section
variable (K : PySem.W.Frag) (ca : Str → Addr) (W : WX)
def OpD (r : R2) (k : EV → EV → Store → RE) : Prop := ∀ (H0 : Hp) (env : Env) (σ : L2.St) (F H : Hp) (ρ : List Addr) (F' H' : Hp) (ρ' : List Addr) (S' : Store) (v1 v2 : V) (x y : EV) (Q : VK),
  Now K ca H0 env σ F H ρ F' H' ρ' S' → RepE K F' ρ' H env σ H' v1 x → RepE K F' ρ' H env σ H' v2 y → PostE K ca W H0 env σ F H ρ Q (k x y S') → r v1 v2 H' Q
def OpV (r : R2) (g : PyData → PyData → Option EV) : Prop := ∀ (H0 : Hp) (env : Env) (σ : L2.St) (F H : Hp) (ρ : List Addr) (F' H' : Hp) (ρ' : List Addr) (S' : Store) (v1 v2 : V) (a b : PyData) (ev : EV) (Q : VK),
  Now K ca H0 env σ F H ρ F' H' ρ' S' → Vw K F' H' v1 a → Vw K F' H' v2 b → g a b = some ev → PostE K ca W H0 env σ F H ρ Q (.ok ev S') → r v1 v2 H' Q
def UnD (r : V → Hp → VK → Prop) (k : EV → Store → RE) : Prop := ∀ (H0 : Hp) (env : Env) (σ : L2.St) (F H : Hp) (ρ : List Addr) (F' H' : Hp) (ρ' : List Addr) (S' : Store) (v1 : V) (x : EV) (Q : VK),
  Now K ca H0 env σ F H ρ F' H' ρ' S' → RepE K F' ρ' H env σ H' v1 x → PostE K ca W H0 env σ F H ρ Q (k x S') → r v1 H' Q
def UnV (r : V → Hp → VK → Prop) (g : PyData → Option EV) : Prop := ∀ (H0 : Hp) (env : Env) (σ : L2.St) (F H : Hp) (ρ : List Addr) (F' H' : Hp) (ρ' : List Addr) (S' : Store) (v1 : V) (a : PyData) (ev : EV) (Q : VK),
  Now K ca H0 env σ F H ρ F' H' ρ' S' → Vw K F' H' v1 a → g a = some ev → PostE K ca W H0 env σ F H ρ Q (.ok ev S') → r v1 H' Q
end
section
variable {K : PySem.W.Frag} {ca : Str → Addr} {W : WX} {σ : L2.St} {H : Hp} {Q : VK} {r : R2} {fa fb : DE}
theorem OpV.d {g : PyData → PyData → Option EV} (h : OpV K ca W r g) : OpD K ca W r (vOp g) := by
  intro H0 env σ F H ρ F' H' ρ' S' v1 v2 x y Q n r1 r2 p
  unfold vOp at p
  cases q1 : x.view S' with
  | none => simp only [q1] at p; exact p.elim
  | some a =>
    cases q2 : y.view S' with
    | none => simp only [q1, q2] at p; exact p.elim
    | some b =>
      simp only [q1, q2] at p
      cases q3 : g a b with
      | none => simp only [q3, toRE] at p; exact p.elim
      | some ev =>
        simp only [q3, toRE] at p
        exact h H0 env σ F H ρ F' H' ρ' S' v1 v2 a b ev Q n (vw_of n.sim r1 q1) (vw_of n.sim r2 q2) q3 p
theorem UnV.d {r : V → Hp → VK → Prop} {g : PyData → Option EV} (h : UnV K ca W r g) : UnD K ca W r (vUn g) := by
  intro H0 env σ F H ρ F' H' ρ' S' v1 x Q n r1 p
  unfold vUn at p
  cases q1 : x.view S' with
  | none => simp only [q1] at p; exact p.elim
  | some a =>
    simp only [q1] at p
    cases q3 : g a with
    | none => simp only [q3, toRE] at p; exact p.elim
    | some ev =>
      simp only [q3, toRE] at p
      exact h H0 env σ F H ρ F' H' ρ' S' v1 a ev Q n (vw_of n.sim r1 q1) q3 p
theorem te_op {k : EV → EV → Store → RE} (o : OpD K ca W r k) (h : dTE K ca W (RE2 k fa fb) σ H Q) : tOp r (dTE K ca W fa) (dTE K ca W fb) σ H Q :=
  te1 h fun H0 F ρ S env s x S1 v F1 H1 ρ1 n r1 p => te2 n p fun y S2 v2 F2 H2 ρ2 n2 st r2 p2 =>
    o H0 env σ F H ρ F2 H2 ρ2 S2 v v2 x y Q n2 (r1.step st) (r2.base n.stp.mono) p2
theorem te_un {r : V → Hp → VK → Prop} {k : EV → Store → RE} (o : UnD K ca W r k) (h : dTE K ca W (RE1 k fa) σ H Q) : dTE K ca W fa σ H fun x H1 => r x H1 Q :=
  te1 (k := fun _ => k) h fun H0 F ρ S env s x S1 v F1 H1 ρ1 n r1 p => o H0 env σ F H ρ F1 H1 ρ1 S1 v x Q n r1 p
end
end DL

set_option Elab.async false
set_option linter.all false
set_option maxRecDepth 100000
set_option maxHeartbeats 4000000
/-! DL4: the rules of expressions, construct by construct. -/
namespace DL
open PySem PySem.Spec PyProof.Rows L2

def bE (b : Bool) : EV := .d (.bool b)
def iE (i : Int) : EV := .d (.int i)

/-! ### names, constants -/
def cE (x : PyData) : DE := fun _ S => .ok (.d x) S
def cO (v : V) : DE := fun _ S => .ok (.opq v) S
def EV.read : EV → EV
  | .own xs => .bor xs
  | .ownD ks => .borD ks
  | ev => ev
def rdE (i : Nat) : DE := fun env S => match env[i]? with
  | some (some ev) => .ok ev.read S
  | _ => .stuck
section
variable {X : Cx} {ca : Str → Addr} {W : WX}
theorem te_c {x : PyData} {v : V} (hd : ∀ F, Dr X.K F v x) : ∀ σ H Q, dTE X.K ca W (cE x) σ H Q → tC v σ H Q := fun σ H Q h => by
  obtain ⟨H0, F, ρ, S, env, s, p⟩ := h
  exact p v F H ρ ⟨Stp.refl _ _ _, s⟩ (hd F)
theorem te_o {v : V} : ∀ σ H Q, dTE X.K ca W (cO v) σ H Q → tC v σ H Q := fun σ H Q h => by
  obtain ⟨H0, F, ρ, S, env, s, p⟩ := h
  exact p v F H ρ ⟨Stp.refl _ _ _, s⟩ rfl
theorem je_int {i j pos} : JE X ca W (.Constant (.int i) j pos) (cE (.int i)) := imp_e pe_int (te_c fun _ => .int i)
theorem je_bl {b j pos} : JE X ca W (.Constant (.bool b) j pos) (cE (.bool b)) := imp_e pe_bl (te_c fun _ => .bl b)
theorem je_non {j pos} : JE X ca W (.Constant .none j pos) (cE .none) := imp_e pe_non (te_c fun _ => .non)
theorem je_str {x j pos} : JE X ca W (.Constant (.str x) j pos) (cE (.str x)) := imp_e pe_str (te_c fun _ => .str x)
theorem je_glob {x : Str} {v : V} {u : Value} {d : PyData} {pos : Pos} (hg : Gl X x) (hm : X.mg x = some u) (r : RelV v u) (hd : ∀ F, Dr X.K F v d) (hx : (x == ("__debug__" : Str)) = false := by decide) : JE X ca W (.Name x pos) (cE d) :=
  imp_e (pe_glob hg hm r hx) (te_c hd)
theorem je_globO {x : Str} {v : V} {u : Value} {pos : Pos} (hg : Gl X x) (hm : X.mg x = some u) (r : RelV v u) (hx : (x == ("__debug__" : Str)) = false := by decide) : JE X ca W (.Name x pos) (cO v) :=
  imp_e (pe_glob hg hm r hx) te_o
theorem je_bltn {x : Str} {v : V} {u : Value} {pos : Pos} (hg : Gl X x) (hm : X.mg x = none) (hv : bootBuiltins x = some u) (r : RelV v u) (hn : x ≠ "__name__" := by decide) (hx : (x == ("__debug__" : Str)) = false := by decide) : JE X ca W (.Name x pos) (cO v) :=
  imp_e (pe_bltn hg hm hv r hn hx) te_o
theorem read_rep {K : PySem.W.Frag} {H0 F H : Hp} {ρ : List Addr} {S : Store} {env : Env} {σ : L2.St} (s : Sim K ca H0 F ρ S env σ H) {i : Nat} {ev : EV} (e : env[i]? = some (some ev)) : ∃ v, σ[i]? = some (some v) ∧ RepE K F ρ H env σ H v ev.read := by
  obtain ⟨v, e1, r⟩ := s.slot i ev e
  refine ⟨v, e1, ?_⟩
  cases ev with
  | d x => exact r
  | own xs =>
    obtain ⟨a, vs, r1, _⟩ := r
    subst r1
    exact ⟨i, a, e, e1, rfl⟩
  | ownD xs =>
    obtain ⟨a, vs, r1, _⟩ := r
    subst r1
    exact ⟨i, a, e, e1, rfl⟩
  | bor xs => exact r.elim
  | borD xs => exact r.elim
  | ref l => exact r
  | scr l => exact r
  | opq l => exact r
  | fn l => exact r
  | tag l => exact r
theorem te_var {i : Nat} : ∀ σ H Q, dTE X.K ca W (rdE i) σ H Q → tVar i σ H Q := fun σ H Q h => by
  obtain ⟨H0, F, ρ, S, env, s, p⟩ := h
  unfold rdE at p
  cases q : env[i]? with
  | none => simp only [q] at p; exact p.elim
  | some o =>
    cases o with
    | none => simp only [q] at p; exact p.elim
    | some ev =>
      simp only [q] at p
      obtain ⟨v, e1, r⟩ := read_rep s q
      exact ⟨v, e1, p v F H ρ ⟨Stp.refl _ _ _, s⟩ r⟩
theorem jv (i : Nat) {x : Str} {pos : Pos} (hN : X.N[i]? = some x := by rfl) (hv : Vis X.env.scope x := by first | exact Or.inl rfl | exact Or.inr (Or.inl rfl) | exact Or.inr (Or.inr rfl)) (hd : (x == ("__debug__" : Str)) = false := by decide)
    (hcd : (x == ("__classdict__" : Str)) = false := by decide) : JE X ca W (.Name x pos) (rdE i) := imp_e (pe_var hN hv hd hcd) te_var
end

/-! ### argument lists, displays -/
def consA (f : DE) (as : DA) : DA := fun env S => (f env S).bindA fun x S1 => match x.fixed with
  | some x' => (as env S1).bindA fun xs S2 => .ok (x' :: xs) S2
  | none => .stuck
def asL : List DE → DA
  | [] => fun _ S => .ok [] S
  | f :: fs => consA f (asL fs)
def EV.dat : EV → Option PyData
  | .d x => some x
  | _ => none
def allD : List EV → Option (List PyData)
  | [] => some []
  | x :: xs => match x.dat, allD xs with
    | some d, some ds => some (d :: ds)
    | _, _ => none
def tupE (fs : List DE) : DE := fun env S => (asL fs env S).bind fun xs S1 => match allD xs with
  | some ds => .ok (.d (.tuple ds)) S1
  | none => .stuck
def lstE (fs : List DE) : DE := fun env S => (asL fs env S).bind fun xs S1 => match allD xs with
  | some ds => .ok (.own ds) S1
  | none => .stuck
theorem asL_len : ∀ (fs : List DE) (env : Env) (S S' : Store) (rs : List EV), asL fs env S = .ok rs S' → rs.length = fs.length
  | [], env, S, S', rs, h => by
    cases h
    rfl
  | f :: fs, env, S, S', rs, h => by
    unfold asL consA at h
    cases q : f env S with
    | ok x S1 =>
      simp only [q, RE.bindA] at h
      cases q2 : x.fixed with
      | none => simp only [q2] at h; cases h
      | some x' =>
        simp only [q2] at h
        cases q3 : asL fs env S1 with
        | ok xs S2 =>
          simp only [q3, RA.bindA] at h
          cases h
          rw [List.length_cons, List.length_cons, asL_len fs env S1 _ _ q3]
        | raise e S2 => simp only [q3, RA.bindA] at h; cases h
        | stuck => simp only [q3, RA.bindA] at h; cases h
    | raise e S1 => simp only [q, RE.bindA] at h; cases h
    | stuck => simp only [q, RE.bindA] at h; cases h
theorem allD_rep {K : PySem.W.Frag} {F B H : Hp} {ρ : List Addr} : ∀ {vs : List V} {rs : List EV} {ds : List PyData}, Paired (fun v r => RepV K F ρ B H v r) vs rs → allD rs = some ds → DrAll K F vs ds ∧ ds.length = rs.length
  | _, _, ds, .nil, e => by
    cases e
    exact ⟨.nil, rfl⟩
  | v :: vs, r :: rs, ds, .cons h t, e => by
    unfold allD at e
    cases q : r.dat with
    | none => simp only [q] at e; cases e
    | some d =>
      cases q2 : allD rs with
      | none => simp only [q, q2] at e; cases e
      | some ds' =>
        simp only [q, q2] at e
        cases e
        obtain ⟨h1, h2⟩ := allD_rep t q2
        have hr : r = .d d := by
          cases r with
          | d x => cases q; rfl
          | _ => cases q
        subst hr
        exact ⟨.cons h h1, by rw [List.length_cons, List.length_cons, h2]⟩
section
variable {X : Cx} {ca : Str → Addr} {W : WX} {e : Expr} {es : List Expr} {f : DE} {fs : List DE} {as : DA}
theorem ta_nil : ∀ σ H Q, dTA X.K ca W (asL []) σ H Q → tNil σ H Q := fun σ H Q h => by
  obtain ⟨H0, F, ρ, S, env, s, p⟩ := h
  exact p [] F H ρ ⟨Stp.refl _ _ _, s⟩ .nil
theorem ta_cons {K : PySem.W.Frag} : ∀ σ H Q, dTA K ca W (consA f as) σ H Q → tCons (dTE K ca W f) (dTA K ca W as) σ H Q := fun σ H Q h => by
  obtain ⟨H0, F, ρ, S, env, s, p⟩ := h
  refine ⟨H0, F, ρ, S, env, s, ?_⟩
  unfold consA at p
  cases q : f env S with
  | ok x S1 =>
    simp only [q, RE.bindA] at p
    cases q2 : x.fixed with
    | none => simp only [q2] at p; exact p.elim
    | some x' =>
      simp only [q2] at p
      intro v F1 H1 ρ1 n r
      obtain ⟨F2, n2, sm, r2⟩ := n.fixed s.old r q2
      refine ⟨H0, F2, ρ1, S1, env, n2.sim, ?_⟩
      cases q3 : as env S1 with
      | ok xs S2 =>
        simp only [q3, RA.bindA] at p
        intro vs F3 H3 ρ3 n3 rs
        refine p (v :: vs) F3 H3 ρ3 ⟨n2.stp.trans n3.stp, n3.sim⟩ (.cons (r2.step n3.stp) (Paired.mapP rs fun a b z => z.base n2.stp.mono))
      | raise ex S2 =>
        simp only [q3, RA.bindA] at p
        exact fun cls d F3 H3 ρ3 n3 r => p cls d F3 H3 ρ3 ⟨n2.stp.trans n3.stp, n3.sim⟩ r
      | stuck =>
        simp only [q3, RA.bindA] at p
        exact p.elim
  | raise ex S1 =>
    simp only [q, RE.bindA] at p
    exact p
  | stuck =>
    simp only [q, RE.bindA] at p
    exact p
theorem ja_nil : JA X ca W [] (asL []) := imp_a pa_nil ta_nil
theorem ja_cons (h : JE X ca W e f) (t : JA X ca W es (asL fs)) (hs : starEach (e :: es) X.env = (false, eval e X.env) :: starEach es X.env := by rfl) : JA X ca W (e :: es) (asL (f :: fs)) := imp_a (pa_cons h t hs) ta_cons
/-- the arguments' end -/
theorem ta_end {K : PySem.W.Frag} {σ : L2.St} {H : Hp} {Q : VK} {k : List EV → Store → RE} {R : List V → Hp → Prop} (h : dTE K ca W (fun env S => (as env S).bind k) σ H Q)
    (hk : ∀ H0 F ρ S env, Sim K ca H0 F ρ S env σ H → ∀ xs S1 vs F1 H1 ρ1, as env S = .ok xs S1 → Now K ca H0 env σ F H ρ F1 H1 ρ1 S1 → Paired (fun v r => RepV K F1 ρ1 H H1 v r) vs xs → PostE K ca W H0 env σ F H ρ Q (k xs S1) → R vs H1) : dTA K ca W as σ H R := by
  obtain ⟨H0, F, ρ, S, env, s, p⟩ := h
  refine ⟨H0, F, ρ, S, env, s, ?_⟩
  cases q : as env S with
  | ok xs S1 =>
    simp only [q, RA.bind] at p
    exact fun vs F1 H1 ρ1 n r => hk H0 F ρ S env s xs S1 vs F1 H1 ρ1 q n r p
  | raise e S1 =>
    simp only [q, RA.bind] at p
    exact p
  | stuck =>
    simp only [q, RA.bind] at p
    exact p
theorem te_tup (hz : fs.length ≤ 1000) : ∀ σ H Q, dTE X.K ca W (tupE fs) σ H Q → tTup (dTA X.K ca W (asL fs)) σ H Q := fun σ H Q h =>
  ta_end h fun H0 F ρ S env s xs S1 vs F1 H1 ρ1 e n r p => by
    have hl := asL_len _ _ _ _ _ e
    have hv := Paired.length r
    cases q : allD xs with
    | none => simp only [q] at p; exact p.elim
    | some ds =>
      simp only [q] at p
      obtain ⟨h1, h2⟩ := allD_rep r q
      exact ⟨by rw [sizeLine_eq]; omega, fun pt hp => fin_t n p h1 hp⟩
theorem te_lst (hz : fs.length ≤ 1000) : ∀ σ H Q, dTE X.K ca W (lstE fs) σ H Q → tLst (dTA X.K ca W (asL fs)) σ H Q := fun σ H Q h =>
  ta_end h fun H0 F ρ S env s xs S1 vs F1 H1 ρ1 e n r p => by
    have hl := asL_len _ _ _ _ _ e
    have hv := Paired.length r
    cases q : allD xs with
    | none => simp only [q] at p; exact p.elim
    | some ds =>
      simp only [q] at p
      obtain ⟨h1, h2⟩ := allD_rep r q
      exact ⟨by rw [sizeLine_eq]; omega, fun pt hp => fin_l n p h1 hp⟩
theorem je_tup {x1 pos} (h : JA X ca W es (asL fs)) (hz : fs.length ≤ 1000 := by decide) : JE X ca W (.Tuple es x1 pos) (tupE fs) := imp_e (pe_tup h) (te_tup hz)
theorem je_lst {pos} (h : JA X ca W es (asL fs)) (hz : fs.length ≤ 1000 := by decide) : JE X ca W (.List es pos) (lstE fs) := imp_e (pe_lst h) (te_lst hz)
end

/-! ### operators -/
def LIM : Nat := 16777216
theorem lim_eq : sizeLine = LIM := sizeLine_eq
def addG : PyData → PyData → Option EV
  | .int i, .int j => some (.d (.int (i + j)))
  | .str a, .str b => if a.length + b.length ≤ LIM then some (.d (.str (a ++ b))) else none
  | .tuple a, .tuple b => if a.length + b.length ≤ LIM then some (.d (.tuple (a ++ b))) else none
  | .list a, .list b => if a.length + b.length ≤ LIM then some (.own (a ++ b)) else none
  | _, _ => none
def subG : PyData → PyData → Option EV
  | .int i, .int j => some (.d (.int (i - j)))
  | _, _ => none
def mulG : PyData → PyData → Option EV
  | .int i, .int j => if (-(2 ^ 64) < i ∧ i < 2 ^ 64) ∨ (-(2 ^ 64) < j ∧ j < 2 ^ 64) then some (.d (.int (i * j))) else none
  | .list a, .int k => if -(2 ^ 63) ≤ k ∧ k < 2 ^ 63 ∧ a.length * k.toNat ≤ LIM then some (.own (List.replicate k.toNat a).flatten) else none
  | .tuple a, .int k => if a ≠ [] ∧ 2 ≤ k ∧ k ≤ 1000 ∧ a.length ≤ 1000 then some (.d (.tuple (List.replicate k.toNat a).flatten)) else none
  | _, _ => none
def modG : PyData → PyData → Option EV
  | .int i, .int j => if 0 < j then some (.d (.int (i % j))) else none
  | _, _ => none
def divG : PyData → PyData → Option EV
  | .int i, .int j => if 0 < j ∧ j < 1073741824 then some (.d (.int (i / j))) else none
  | _, _ => none
def powG : PyData → PyData → Option EV
  | .int i, .int j => if 0 ≤ j ∧ j ≤ 1000000 ∧ i.natAbs < 2 ^ 64 then some (.d (.int (i ^ j.toNat))) else none
  | _, _ => none
def ltG : PyData → PyData → Option EV
  | .int i, .int j => some (bE (decide (i < j)))
  | _, _ => none
def leG : PyData → PyData → Option EV
  | .int i, .int j => some (bE (decide (i ≤ j)))
  | _, _ => none
def gtG : PyData → PyData → Option EV
  | .int i, .int j => some (bE (decide (j < i)))
  | _, _ => none
def geG : PyData → PyData → Option EV
  | .int i, .int j => some (bE (decide (j ≤ i)))
  | _, _ => none
def eqG (x y : PyData) : Option EV := if SeqAt.shaped x = true ∧ SeqAt.shaped y = true then some (bE (PyData.eqv x y)) else none
def neG (x y : PyData) : Option EV := if SeqAt.shaped x = true ∧ SeqAt.shaped y = true then some (bE (!PyData.eqv x y)) else none
def isNG : PyData → Bool
  | .none => true
  | _ => false
def flatD : PyData → Bool
  | .none => true
  | .bool _ => true
  | .int _ => true
  | .str _ => true
  | _ => false
/-- x in a list or a tuple: flat things, or data in a list -/
def inG (neg : Bool) (x : PyData) : PyData → Option EV
  | .list ds => if SeqAt.shaped x = true ∧ SeqAt.shaped (.list ds) = true then some (bE (if neg then !(ds.any fun z => PyData.eqv z x) else ds.any fun z => PyData.eqv z x)) else none
  | .tuple ds => if flatD x = true ∧ ds.all flatD = true then some (bE (if neg then !(ds.any fun z => PyData.eqv z x) else ds.any fun z => PyData.eqv z x)) else none
  | _ => none
def ixG : PyData → PyData → Option EV
  | .list xs, .int i => (atI xs i).map .d
  | .tuple xs, .int i => (atI xs i).map .d
  | .str z, .int i => if z.length ≤ LIM then (atI z.cps.toList i).map fun c => .d (.str ⟨#[c]⟩) else none
  | _, _ => none
section
variable {K : PySem.W.Frag} {ca : Str → Addr} {W : WX}
def rAdd1 (K : PySem.W.Frag) : R2 := fun x y H Q => rI0 (fun i j => .int (i + j)) x y H Q ∨ (∃ i j, x = .str i ∧ y = .str j ∧ i.length + j.length ≤ sizeLine ∧ Q (.str (i ++ j)) H) ∨ rCatA K x y H Q ∨ rCat x y H Q
theorem op_add1 {X : Cx} : OpR X (binaryOp .Add) (rAdd1 X.K) := op_add.or (op_add_str.or (op_catA.or op_cat))
theorem opv_add : OpV K ca W (rAdd1 K) addG := by
  intro H0 env σ F H ρ F' H' ρ' S' v1 v2 a b ev Q n r1 r2 e p
  have hL := lim_eq
  unfold addG at e
  split at e
  · cases r1; cases r2; cases e
    exact .inl ⟨_, _, rfl, rfl, fin_d n p (.int _)⟩
  · cases r1; cases r2
    split at e
    · cases e
      exact .inr (.inl ⟨_, _, rfl, rfl, by omega, fin_d n p (.str _)⟩)
    · cases e
  · split at e
    · cases e
      cases r1 with
      | tup h1 d1 =>
        cases r2 with
        | tup h2 d2 =>
          have l1 := d1.length
          have l2 := d2.length
          refine .inr (.inr (.inl ⟨_, _, _, _, rfl, rfl, same_t n.sim.fz h1, same_t n.sim.fz h2, by omega, fun z => ?_, fun z z2 => ?_, fun z z2 pt hp => fin_t n p (d1.append d2) hp⟩))
          · subst z
            cases d1
            exact fin_d n p (.tup h2 d2)
          · subst z2
            cases d2
            refine fin_d n p ?_
            rw [List.append_nil]
            exact .tup h1 d1
    · cases e
  · split at e
    · cases e
      obtain ⟨a1, vs1, e1, h1, d1⟩ := r1
      obtain ⟨a2, vs2, e2, h2, d2⟩ := r2
      have l1 := d1.length
      have l2 := d2.length
      exact .inr (.inr (.inr ⟨a1, a2, vs1, vs2, e1, e2, h1, h2, by omega, fun pt hp => fin_l n p (d1.append d2) hp⟩))
    · cases e
  · cases e
theorem opv_int {g : PyData → PyData → Option EV} {f : Int → Int → V} (hg : ∀ a b ev, g a b = some ev → ∃ i j d, a = .int i ∧ b = .int j ∧ ev = .d d ∧ ∀ F, Dr K F (f i j) d) : OpV K ca W (rI0 f) g := by
  intro H0 env σ F H ρ F' H' ρ' S' v1 v2 a b ev Q n r1 r2 e p
  obtain ⟨i, j, d, rfl, rfl, rfl, hd⟩ := hg _ _ _ e
  cases r1; cases r2
  exact ⟨i, j, rfl, rfl, fin_d n p (hd _)⟩
theorem opv_intC {g : PyData → PyData → Option EV} {C : Int → Int → Prop} {f : Int → Int → V} (hg : ∀ a b ev, g a b = some ev → ∃ i j d, a = .int i ∧ b = .int j ∧ C i j ∧ ev = .d d ∧ ∀ F, Dr K F (f i j) d) : OpV K ca W (rI C f) g := by
  intro H0 env σ F H ρ F' H' ρ' S' v1 v2 a b ev Q n r1 r2 e p
  obtain ⟨i, j, d, rfl, rfl, hc, rfl, hd⟩ := hg _ _ _ e
  cases r1; cases r2
  exact ⟨i, j, rfl, rfl, hc, fin_d n p (hd _)⟩
theorem opv_sub : OpV K ca W (rI0 fun i j => .int (i - j)) subG := opv_int fun a b ev e => by
  unfold subG at e
  split at e
  · cases e; exact ⟨_, _, _, rfl, rfl, rfl, fun _ => .int _⟩
  · cases e
theorem opv_lt : OpV K ca W (rI0 fun i j => .bl (decide (i < j))) ltG := opv_int fun a b ev e => by
  unfold ltG at e
  split at e
  · cases e; exact ⟨_, _, _, rfl, rfl, rfl, fun _ => .bl _⟩
  · cases e
theorem opv_le : OpV K ca W (rI0 fun i j => .bl (decide (i ≤ j))) leG := opv_int fun a b ev e => by
  unfold leG at e
  split at e
  · cases e; exact ⟨_, _, _, rfl, rfl, rfl, fun _ => .bl _⟩
  · cases e
theorem opv_gt : OpV K ca W (rI0 fun i j => .bl (decide (j < i))) gtG := opv_int fun a b ev e => by
  unfold gtG at e
  split at e
  · cases e; exact ⟨_, _, _, rfl, rfl, rfl, fun _ => .bl _⟩
  · cases e
theorem opv_ge : OpV K ca W (rI0 fun i j => .bl (decide (j ≤ i))) geG := opv_int fun a b ev e => by
  unfold geG at e
  split at e
  · cases e; exact ⟨_, _, _, rfl, rfl, rfl, fun _ => .bl _⟩
  · cases e
theorem opv_mod : OpV K ca W (rI (fun _ j => 0 < j) fun i j => .int (i % j)) modG := opv_intC fun a b ev e => by
  unfold modG at e
  split at e
  · split at e
    · rename_i h
      cases e; exact ⟨_, _, _, rfl, rfl, h, rfl, fun _ => .int _⟩
    · cases e
  · cases e
theorem opv_div : OpV K ca W (rI CDiv fun i j => .int (i / j)) divG := opv_intC fun a b ev e => by
  unfold divG at e
  split at e
  · split at e
    · rename_i h
      cases e; exact ⟨_, _, _, rfl, rfl, h, rfl, fun _ => .int _⟩
    · cases e
  · cases e
theorem opv_pow : OpV K ca W (rI CPow fun i j => .int (i ^ j.toNat)) powG := opv_intC fun a b ev e => by
  unfold powG at e
  split at e
  · split at e
    · rename_i h
      cases e; exact ⟨_, _, _, rfl, rfl, h, rfl, fun _ => .int _⟩
    · cases e
  · cases e
def rMul1 (K : PySem.W.Frag) : R2 := fun x y H Q => rI CMul (fun i j => .int (i * j)) x y H Q ∨ rRep x y H Q ∨ rRepT K x y H Q
theorem op_mul1 {X : Cx} : OpR X (binaryOp .Mult) (rMul1 X.K) := op_mul.or (op_rep.or op_repT)
theorem opv_mul : OpV K ca W (rMul1 K) mulG := by
  intro H0 env σ F H ρ F' H' ρ' S' v1 v2 a b ev Q n r1 r2 e p
  have hL := lim_eq
  unfold mulG at e
  split at e
  · cases r1; cases r2
    split at e
    · rename_i h
      cases e
      exact .inl ⟨_, _, rfl, rfl, h, fin_d n p (.int _)⟩
    · cases e
  · cases r2
    split at e
    · rename_i h
      cases e
      obtain ⟨a1, vs1, e1, h1, d1⟩ := r1
      have l1 := d1.length
      exact .inr (.inl ⟨a1, _, vs1, e1, rfl, h1, h.1, h.2.1, by rw [l1]; have := h.2.2; omega, fun pt hp => fin_l n p (d1.rep _) hp⟩)
    · cases e
  · cases r2
    split at e
    · rename_i h
      cases e
      cases r1 with
      | tup h1 d1 =>
        have l1 := d1.length
        refine .inr (.inr ⟨_, _, _, rfl, rfl, same_t n.sim.fz h1, fun z => ?_, h.2.1, h.2.2.1, by rw [l1]; exact h.2.2.2, fun pt hp => fin_t n p (d1.rep _) hp⟩)
        subst z
        cases d1
        exact h.1 rfl
    · cases e
  · cases e
theorem opv_eq : OpV K ca W (rEqD K) eqG := by
  intro H0 env σ F H ρ F' H' ρ' S' v1 v2 a b ev Q n r1 r2 e p
  unfold eqG at e
  split at e
  · rename_i h
    cases e
    exact ⟨a, b, vw_dp n.sim.fz r1 (SeqAt.canLay_of_shaped h.1), vw_dp n.sim.fz r2 (SeqAt.canLay_of_shaped h.2), h.1, h.2, fin_d n p (.bl _)⟩
  · cases e
theorem opv_ne : OpV K ca W (rNeD K) neG := by
  intro H0 env σ F H ρ F' H' ρ' S' v1 v2 a b ev Q n r1 r2 e p
  unfold neG at e
  split at e
  · rename_i h
    cases e
    exact ⟨a, b, vw_dp n.sim.fz r1 (SeqAt.canLay_of_shaped h.1), vw_dp n.sim.fz r2 (SeqAt.canLay_of_shaped h.2), h.1, h.2, fin_d n p (.bl _)⟩
  · cases e
theorem flat_v {F : Hp} {v : V} {x : PyData} (r : Dr K F v x) (h : flatD x = true) : flatV v = true := by
  cases r <;> first | rfl | exact absurd (show false = true from h) Bool.false_ne_true
theorem flat_eq {F : Hp} {v w : V} {x y : PyData} (r : Dr K F v x) (q : Dr K F w y) (h : flatD x = true) (h2 : flatD y = true) : eqV v w = PyData.eqv x y := by
  cases r <;> cases q <;> first | (simp only [eqV, PyData.eqv]; done) | rfl | exact absurd (show false = true from h) Bool.false_ne_true | exact absurd (show false = true from h2) Bool.false_ne_true
theorem flat_all {F : Hp} : ∀ {vs : List V} {xs : List PyData}, DrAll K F vs xs → xs.all flatD = true → vs.all flatV = true
  | _, _, .nil, _ => rfl
  | _, _, .cons h r, e => by
    simp only [List.all_cons, Bool.and_eq_true] at e ⊢
    exact ⟨flat_v h e.1, flat_all r e.2⟩
theorem flat_any {F : Hp} {w : V} {y : PyData} (q : Dr K F w y) (hy : flatD y = true) : ∀ {vs : List V} {xs : List PyData}, DrAll K F vs xs → xs.all flatD = true → inV w vs = xs.any fun z => PyData.eqv z y
  | _, _, .nil, _ => rfl
  | _, _, .cons h r, e => by
    simp only [List.all_cons, Bool.and_eq_true] at e
    have ih := flat_any q hy r e.2
    unfold inV at ih ⊢
    rw [List.any_cons, List.any_cons, ih, flat_eq h q e.1 hy]
def rIn1 (K : PySem.W.Frag) (neg : Bool) : R2 := fun x y H Q => rIn K neg x y H Q ∨ (if neg then rNotInD K x y H Q else rInD K x y H Q)
theorem op_in1 {X : Cx} (hu : X.A.units + 65 < cLine) : OpR X (compareOp .In) (rIn1 X.K false) := op_in_seq.or (op_inD hu)
theorem op_notIn1 {X : Cx} (hu : X.A.units + 65 < cLine) : OpR X (compareOp .NotIn) (rIn1 X.K true) := op_notIn_seq.or (op_notInD hu)
theorem opv_in {neg : Bool} : OpV K ca W (rIn1 K neg) (inG neg) := by
  intro H0 env σ F H ρ F' H' ρ' S' v1 v2 a b ev Q n r1 r2 e p
  unfold inG at e
  split at e
  · split at e
    · rename_i h
      cases e
      refine .inr ?_
      have h1 := vw_dp n.sim.fz r1 (SeqAt.canLay_of_shaped h.1)
      have h2 := vw_dp n.sim.fz r2 (SeqAt.canLay_of_shaped h.2)
      cases neg with
      | true => exact ⟨a, _, h1, h2, h.1, h.2, fin_d n p (.bl _)⟩
      | false => exact ⟨a, _, h1, h2, h.1, h.2, fin_d n p (.bl _)⟩
    · cases e
  · split at e
    · rename_i h
      cases e
      have ra : Dr K F' v1 a := by
        cases a <;> first | exact r1 | exact absurd (show false = true from h.1) Bool.false_ne_true
      cases r2 with
      | tup h2 d2 =>
        refine .inl ⟨_, _, rfl, .inr (same_t n.sim.fz h2), flat_v ra h.1, flat_all d2 h.2, ?_⟩
        rw [flat_any ra h.1 d2 h.2]
        exact fin_d n p (.bl _)
    · cases e
  · cases e
theorem atI_rep {F : Hp} {vs : List V} {xs : List PyData} (r : DrAll K F vs xs) {i : Int} {x : PyData} (e : atI xs i = some x) : ∃ v, atI vs i = some v ∧ Dr K F v x := by
  unfold atI at e ⊢
  rw [r.length]
  cases q : ixN xs.length i with
  | none => rw [q] at e; cases e
  | some j =>
    rw [q] at e
    obtain ⟨v, h1, h2⟩ := r.get e
    exact ⟨v, h1, h2⟩
theorem opv_ix : OpV K ca W (rIx K) ixG := by
  intro H0 env σ F H ρ F' H' ρ' S' v1 v2 a b ev Q n r1 r2 e p
  have hL := lim_eq
  unfold ixG at e
  split at e
  · cases r2
    obtain ⟨a1, vs1, e1, h1, d1⟩ := r1
    obtain ⟨x, ex, e⟩ := Option.map_eq_some_iff.mp e
    subst e
    obtain ⟨v, q1, q2⟩ := atI_rep d1 ex
    exact .inl ⟨a1, vs1, _, v, e1, rfl, SqL.of h1, q1, fin_d n p q2⟩
  · cases r2
    obtain ⟨x, ex, e⟩ := Option.map_eq_some_iff.mp e
    subst e
    cases r1 with
    | tup h1 d1 =>
      obtain ⟨v, q1, q2⟩ := atI_rep d1 ex
      exact .inr (.inl ⟨_, _, _, v, rfl, rfl, same_t n.sim.fz h1, q1, fin_d n p q2⟩)
  · cases r1; cases r2
    split at e
    · obtain ⟨c, ec, e⟩ := Option.map_eq_some_iff.mp e
      subst e
      exact .inr (.inr ⟨_, _, c, rfl, rfl, by omega, ec, fin_d n p (.str _)⟩)
    · cases e
  · cases e
end
abbrev addE : DE → DE → DE := RE2 (vOp addG)
abbrev subE : DE → DE → DE := RE2 (vOp subG)
abbrev mulE : DE → DE → DE := RE2 (vOp mulG)
abbrev modE : DE → DE → DE := RE2 (vOp modG)
abbrev divE : DE → DE → DE := RE2 (vOp divG)
abbrev powE : DE → DE → DE := RE2 (vOp powG)
abbrev ltE : DE → DE → DE := RE2 (vOp ltG)
abbrev leE : DE → DE → DE := RE2 (vOp leG)
abbrev gtE : DE → DE → DE := RE2 (vOp gtG)
abbrev geE : DE → DE → DE := RE2 (vOp geG)
abbrev eqE : DE → DE → DE := RE2 (vOp eqG)
abbrev neE : DE → DE → DE := RE2 (vOp neG)
abbrev inE : DE → DE → DE := RE2 (vOp (inG false))
abbrev ninE : DE → DE → DE := RE2 (vOp (inG true))
/-- script[k], or an item -/
def kIx : EV → EV → Store → RE := fun x y S => match x, y with
  | .scr ns, .d (.int i) => match atI ns i with
    | some n => .ok (.d (.int n)) S
    | none => .stuck
  | _, _ => vOp ixG x y S
abbrev ixE : DE → DE → DE := RE2 kIx
section
variable {X : Cx} {ca : Str → Addr} {W : WX} {a b : Expr} {fa fb : DE} {pos : Pos}
theorem je_op {op : Operator} {r : R2} {k : EV → EV → Store → RE} (o : OpR X (binaryOp op) r) (d : OpD X.K ca W r k) (ha : JE X ca W a fa) (hb : JE X ca W b fb) : JE X ca W (.BinOp a op b pos) (RE2 k fa fb) :=
  imp_e (pe_op o ha hb) fun σ H Q h => te_op d h
theorem je_add (ha : JE X ca W a fa) (hb : JE X ca W b fb) : JE X ca W (.BinOp a .Add b pos) (addE fa fb) := je_op op_add1 opv_add.d ha hb
theorem je_sub (ha : JE X ca W a fa) (hb : JE X ca W b fb) : JE X ca W (.BinOp a .Sub b pos) (subE fa fb) := je_op op_sub opv_sub.d ha hb
theorem je_mul (ha : JE X ca W a fa) (hb : JE X ca W b fb) : JE X ca W (.BinOp a .Mult b pos) (mulE fa fb) := je_op op_mul1 opv_mul.d ha hb
theorem je_mod (ha : JE X ca W a fa) (hb : JE X ca W b fb) : JE X ca W (.BinOp a .Mod b pos) (modE fa fb) := je_op op_mod opv_mod.d ha hb
theorem je_div (ha : JE X ca W a fa) (hb : JE X ca W b fb) : JE X ca W (.BinOp a .FloorDiv b pos) (divE fa fb) := je_op op_fdiv opv_div.d ha hb
theorem je_pow (ha : JE X ca W a fa) (hb : JE X ca W b fb) : JE X ca W (.BinOp a .Pow b pos) (powE fa fb) := je_op op_pow opv_pow.d ha hb
theorem je_cmp {op : CmpOp} {r : R2} {k : EV → EV → Store → RE} (o : OpR X (compareOp op) r) (d : OpD X.K ca W r k) (ha : JE X ca W a fa) (hb : JE X ca W b fb) (hm : behindInMarks op b = false) : JE X ca W (.Compare a [op] [b] pos) (RE2 k fa fb) :=
  imp_e (pe_cmpR o ha hb hm) fun σ H Q h => te_op d h
theorem jt_cmp {op : CmpOp} {r : R2} {k : EV → EV → Store → RE} (o : OpR X (compareOp op) r) (d : OpD X.K ca W r k) (ha : JE X ca W a fa) (hb : JE X ca W b fb) (hm : behindInMarks op b = false) : JT X ca W (.Compare a [op] [b] pos) (RE2 k fa fb) :=
  imp_t (pt_cmpR o ha hb hm) fun σ H Q h => te_op d (tt_te h)
theorem opd_ix {K : PySem.W.Frag} : OpD K ca W (rIx K) kIx := by
  intro H0 env σ F H ρ F' H' ρ' S' v1 v2 x y Q n r1 r2 p
  unfold kIx at p
  split at p
  · obtain ⟨ad, e1, hs⟩ := r1
    cases r2
    rename_i ns i
    cases q : atI ns i with
    | none => simp only [q] at p; exact p.elim
    | some m =>
      simp only [q] at p
      subst e1
      refine .inl ⟨ad, _, i, .int m, rfl, rfl, same_l n.sim.fz hs, ?_, fin_d n p (.int m)⟩
      unfold atI at q ⊢
      rw [List.length_map]
      cases q2 : ixN ns.length i with
      | none => rw [q2] at q; cases q
      | some j =>
        rw [q2] at q
        show (ns.map V.int)[j]? = _
        rw [List.getElem?_map, show ns[j]? = some m from q]
        rfl
  · exact opv_ix.d H0 env σ F H ρ F' H' ρ' S' v1 v2 _ _ Q n r1 r2 p
theorem je_ix (ha : JE X ca W a fa) (hb : JE X ca W b fb) (hs : PlainIx b := by exact fun _ _ => rfl) : JE X ca W (.Subscript a b pos) (ixE fa fb) :=
  imp_e (pe_ix ix_seq ha hb hs) fun σ H Q h => te_op opd_ix h
end
end DL

set_option Elab.async false
set_option linter.all false
set_option maxRecDepth 100000
set_option maxHeartbeats 4000000
/-! DL5: slices, tests, calls of built-ins. -/
namespace DL
open PySem PySem.Spec PyProof.Rows L2

/-! ### slices -/
def partE : Option DE → DE
  | none => fun _ S => .ok (.d .none) S
  | some f => fun env S => (f env S).bind fun v S1 => match v with
    | .d (.int i) => .ok (.d (.int i)) S1
    | _ => .stuck
def optEV : Option Int → EV
  | none => .d .none
  | some i => .d (.int i)
def cutD (xs : List PyData) (lo hi : Option Int) : List PyData := (xs.drop (HT.sIx xs.length 0 lo)).take (HT.sIx xs.length xs.length hi - HT.sIx xs.length 0 lo)
def slG (x : PyData) (lo hi : Option Int) : Option EV := match x with
  | .list xs => some (.own (cutD xs lo hi))
  | .tuple xs => some (.d (.tuple (cutD xs lo hi)))
  | .str z => if z.length ≤ LIM then some (.d (.str (cutS z lo hi))) else none
  | _ => none
def evOpt : EV → Option (Option Int)
  | .d .none => some none
  | .d (.int i) => some (some i)
  | _ => none
def kSl (x l u : EV) (S : Store) : RE := match x.view S, evOpt l, evOpt u with
  | some a, some lo, some hi => toRE S (slG a lo hi)
  | _, _, _ => .stuck
def slE (f : DE) (lo hi : Option DE) : DE := fun env S => (f env S).bind fun x S1 => (partE lo env S1).bind fun l S2 => (partE hi env S2).bind fun u S3 => kSl x l u S3
def tPt (K : PySem.W.Frag) (ca : Str → Addr) (W : WX) : Option DE → TO
  | none => tNoPart
  | some f => tPart (dTE K ca W f)
abbrev JO (X : Cx) (ca : Str → Addr) (W : WX) (e : Option Expr) (o : Option DE) : Prop := PO X e (tPt X.K ca W o)
section
variable {K : PySem.W.Frag} {ca : Str → Addr} {W : WX} {H0 F H F' H' F1 H1 F2 H2 B : Hp} {ρ ρ' ρ1 ρ2 : List Addr} {S S' S1 S2 : Store} {env : Env} {σ : L2.St} {v : V} {ev : EV} {Q : VK}
theorem po2 {lo : Option DE} {k : EV → Store → RE} {R : Option Int → Hp → Prop} (n : Now K ca H0 env σ F H ρ F1 H1 ρ1 S1) (p : PostE K ca W H0 env σ F H ρ Q ((partE lo env S1).bind k))
    (hk : ∀ o S2 F2 H2 ρ2, Now K ca H0 env σ F H ρ F2 H2 ρ2 S2 → Stp F1 H1 ρ1 F2 H2 ρ2 → PostE K ca W H0 env σ F H ρ Q (k (optEV o) S2) → R o H2) : tPt K ca W lo σ H1 R := by
  cases lo with
  | none => exact hk none S1 F1 H1 ρ1 n (Stp.refl _ _ _) p
  | some f =>
    have p2 : PostE K ca W H0 env σ F H ρ Q ((f env S1).bind fun v S1 => RE.bind (match v with
      | .d (.int i) => RE.ok (.d (.int i)) S1
      | _ => .stuck) k) := by
      unfold partE at p
      cases q : f env S1 with
      | ok x S2 => simp only [q, RE.bind] at p ⊢; exact p
      | raise e S2 => simp only [q, RE.bind] at p ⊢; exact p
      | stuck => simp only [q, RE.bind] at p ⊢; exact p
    refine te2 n p2 fun y S2 v F2 H2 ρ2 n2 st r p3 => ?_
    cases y with
    | d x =>
      cases x with
      | int i =>
        cases r
        exact ⟨i, rfl, hk (some i) S2 F2 H2 ρ2 n2 st p3⟩
      | _ => exact p3.elim
    | _ => exact p3.elim
def rSl1 (K : PySem.W.Frag) : V → Option Int → Option Int → Hp → VK → Prop := fun x lo hi H Q => rSlL K x lo hi H Q ∨ rSlA K x lo hi H Q ∨ rSlS x lo hi H Q
theorem sl_1 {X : Cx} : SlR X (rSl1 X.K) := sl_list.or (sl_tupA.or sl_str)
theorem cut_rep {vs : List V} {xs : List PyData} (r : DrAll K F vs xs) (lo hi : Option Int) : DrAll K F (cutV vs lo hi) (cutD xs lo hi) := by
  unfold cutV cutD
  rw [r.length]
  exact (r.drop _).take _
theorem te_sl {f : DE} {lo hi : Option DE} (h : dTE K ca W (slE f lo hi) σ H Q) : tSl (rSl1 K) (dTE K ca W f) (tPt K ca W lo) (tPt K ca W hi) σ H Q :=
  te1 (k := fun env x S1 => (partE lo env S1).bind fun l S2 => (partE hi env S2).bind fun u S3 => kSl x l u S3) h fun H0 F ρ S env s x S1 v F1 H1 ρ1 n r p =>
    po2 n p fun l S2 F2 H2 ρ2 n2 st2 p2 => po2 n2 p2 fun u S3 F3 H3 ρ3 n3 st3 p3 => by
      have r3 := (r.step st2).step st3
      have hL := lim_eq
      have ho : ∀ o, evOpt (optEV o) = some o := fun o => by cases o <;> rfl
      unfold kSl at p3
      rw [ho, ho] at p3
      cases q : x.view S3 with
      | none => simp only [q] at p3; exact p3.elim
      | some a =>
        simp only [q] at p3
        have w := vw_of n3.sim r3 q
        cases q2 : slG a l u with
        | none => simp only [q2, toRE] at p3; exact p3.elim
        | some ev =>
          simp only [q2, toRE] at p3
          unfold slG at q2
          split at q2
          · cases q2
            obtain ⟨a1, vs1, e1, h1, d1⟩ := w
            exact .inl ⟨a1, vs1, e1, SqL.of h1, fun pt hp => fin_l n3 p3 (cut_rep d1 l u) hp⟩
          · cases q2
            cases w with
            | tup h1 d1 =>
              refine .inr (.inl ⟨_, _, rfl, same_t n3.sim.fz h1, fun z => ?_, fun z pt hp => fin_t n3 p3 (cut_rep d1 l u) hp⟩)
              refine fin_d n3 p3 ?_
              have e : ∀ zs : List PyData, zs.length = zs.length → cutD zs l u = cutD zs l u := fun _ _ => rfl
              rename_i xs _ vs
              have hl := d1.length
              have : cutD xs l u = xs := by
                unfold cutD
                rw [← hl, z.1, z.2, hl, List.drop_zero, Nat.sub_zero, List.take_length]
              rw [this]
              exact .tup h1 d1
          · cases w
            split at q2
            · cases q2
              exact .inr (.inr ⟨_, rfl, by omega, fin_d n3 p3 (.str _)⟩)
            · cases q2
          · cases q2
end
section
variable {X : Cx} {ca : Str → Addr} {W : WX} {a b c : Expr} {es : List Expr} {fa fb fc : DE} {pos : Pos}
theorem jo_none : JO X ca W none none := po_none
theorem jo_some (h : JE X ca W a fa) : JO X ca W (some a) (some fa) := po_some h
theorem je_sl {lo hi : Option Expr} {fl fh : Option DE} {p2 : Pos} (h : JE X ca W a fa) (hl : JO X ca W lo fl) (hh : JO X ca W hi fh) : JE X ca W (.Subscript a (.Slice lo hi none p2) pos) (slE fa fl fh) :=
  imp_e (pe_slice sl_1 h hl hh) fun σ H Q h => te_sl h
end
theorem te_mono {K : PySem.W.Frag} {ca : Str → Addr} {W : WX} {f : DE} {σ : L2.St} {H : Hp} {Q Q' : VK} (m : ∀ x H1, Q x H1 → Q' x H1) (h : dTE K ca W f σ H Q) : dTE K ca W f σ H Q' := by
  obtain ⟨H0, F, ρ, S, env, s, p⟩ := h
  refine ⟨H0, F, ρ, S, env, s, ?_⟩
  cases q : f env S with
  | ok x S1 =>
    simp only [q] at p
    exact fun v F1 H1 ρ1 n r => m _ _ (p v F1 H1 ρ1 n r)
  | raise e S1 =>
    simp only [q] at p
    exact p
  | stuck =>
    simp only [q] at p
    exact p
/-! ### xs[::-1] -/
def revG : PyData → Option EV
  | .list xs => some (.own xs.reverse)
  | _ => none
abbrev revE : DE → DE := RE1 (vUn revG)
section
variable {X : Cx} {ca : Str → Addr} {W : WX} {a b c : Expr} {es : List Expr} {fa fb fc : DE} {pos : Pos}
theorem unv_rev {K : PySem.W.Frag} : UnV K ca W (fun x H1 Q => ∃ a xs, x = .ref a ∧ SqL K H1 a xs ∧ ∀ p, H1 p = none → Q (.ref p) (upd H1 p (.lst xs.reverse))) revG := by
  intro H0 env σ F H ρ F' H' ρ' S' v1 a ev Q n r e p
  unfold revG at e
  split at e
  · cases e
    obtain ⟨a1, vs1, e1, h1, d1⟩ := r
    exact ⟨a1, vs1, e1, SqL.of h1, fun pt hp => fin_l n p d1.reverse hp⟩
  · cases e
theorem je_rev {k : Nat} {p1 p2 p3 : Pos} (h : JE X ca W a fa) : JE X ca W (.Subscript a (.Slice none none (some (.UnaryOp .USub (.Constant (.int 1) k p1) p2)) p3) pos) (revE fa) :=
  imp_e (pe_revL h) fun σ H Q h => te_un unv_rev.d h
/-! ### -x -/
def negG : PyData → Option EV
  | .int i => some (.d (.int (-i)))
  | _ => none
abbrev negE : DE → DE := RE1 (vUn negG)
theorem unv_neg {K : PySem.W.Frag} : UnV K ca W (rU fun i => .int (-i)) negG := by
  intro H0 env σ F H ρ F' H' ρ' S' v1 a ev Q n r e p
  unfold negG at e
  split at e
  · cases e
    cases r
    exact ⟨_, rfl, fin_d n p (.int _)⟩
  · cases e
theorem je_neg (h : JE X ca W a fa) : JE X ca W (.UnaryOp .USub a pos) (negE fa) := imp_e (pe_un un_neg h) fun σ H Q h => te_un unv_neg.d h
/-! ### is None -/
def EV.isN : EV → Bool
  | .d .none => true
  | _ => false
abbrev isNE : DE → DE := RE1 fun x S => .ok (bE x.isN) S
abbrev notNE : DE → DE := RE1 fun x S => .ok (bE (!x.isN)) S
theorem isN_rep {K : PySem.W.Frag} {F B H : Hp} {ρ : List Addr} {env : Env} {σ : L2.St} {v : V} {x : EV} (r : RepE K F ρ B env σ H v x) (hx : ∀ w, x ≠ .opq w) : decide (v = .non) = x.isN := by
  cases x with
  | d y => cases r <;> rfl
  | own xs => obtain ⟨a, vs, e, _⟩ := r; subst e; rfl
  | ownD xs => obtain ⟨a, vs, e, _⟩ := r; subst e; rfl
  | bor xs => obtain ⟨i, a, _, _, e⟩ := r; subst e; rfl
  | borD xs => obtain ⟨i, a, _, _, e⟩ := r; subst e; rfl
  | ref l => obtain ⟨a, e, _⟩ := r; subst e; rfl
  | scr l => obtain ⟨a, e, _⟩ := r; subst e; rfl
  | opq w => exact absurd rfl (hx w)
  | fn x => subst r; rfl
  | tag t => obtain ⟨a, e⟩ := RepTag.ref (K := K) (t := t) r; subst e; rfl
def kIsN (neg : Bool) : EV → Store → RE := fun x S => match x with
  | .opq _ => .stuck
  | x => .ok (bE (if neg then !x.isN else x.isN)) S
abbrev isE : DE → DE := RE1 (kIsN false)
abbrev isntE : DE → DE := RE1 (kIsN true)
theorem und_is {K : PySem.W.Frag} {neg : Bool} : UnD K ca W (fun x H1 Q => Q (.bl (if neg then !decide (x = .non) else decide (x = .non))) H1) (kIsN neg) := by
  intro H0 env σ F H ρ F' H' ρ' S' v1 x Q n r p
  have go : (∀ w, x ≠ .opq w) → PostE K ca W H0 env σ F H ρ Q (.ok (bE (if neg then !x.isN else x.isN)) S') → Q (.bl (if neg then !decide (v1 = .non) else decide (v1 = .non))) H' := fun hx p => by
    rw [isN_rep r hx]
    exact fin_d n p (.bl _)
  cases x with
  | opq w => exact p.elim
  | _ => exact go (fun w z => nomatch z) p
theorem je_is {j : Nat} {pos' : Pos} (h : JE X ca W a fa) : JE X ca W (.Compare a [.Is] [.Constant .none j pos'] pos) (isE fa) := imp_e (pe_cmp (pc_isN h)) fun σ H Q h => te_un (und_is (neg := false)) h
theorem je_isnt {j : Nat} {pos' : Pos} (h : JE X ca W a fa) : JE X ca W (.Compare a [.IsNot] [.Constant .none j pos'] pos) (isntE fa) := imp_e (pe_cmp (pc_notN h)) fun σ H Q h => te_un (und_is (neg := true)) h
theorem jt_is {j : Nat} {pos' : Pos} (h : JE X ca W a fa) : JT X ca W (.Compare a [.Is] [.Constant .none j pos'] pos) (isE fa) := imp_t (pt_cmp (pc_isN h)) fun σ H Q h => te_un (und_is (neg := false)) (tt_te h)
theorem jt_isnt {j : Nat} {pos' : Pos} (h : JE X ca W a fa) : JT X ca W (.Compare a [.IsNot] [.Constant .none j pos'] pos) (isntE fa) := imp_t (pt_cmp (pc_notN h)) fun σ H Q h => te_un (und_is (neg := true)) (tt_te h)
/-! ### comparisons -/
theorem je_lt (ha : JE X ca W a fa) (hb : JE X ca W b fb) : JE X ca W (.Compare a [.Lt] [b] pos) (ltE fa fb) := je_cmp op_lt opv_lt.d ha hb (nomark _)
theorem je_le (ha : JE X ca W a fa) (hb : JE X ca W b fb) : JE X ca W (.Compare a [.LtE] [b] pos) (leE fa fb) := je_cmp op_le opv_le.d ha hb (nomark _)
theorem je_gt (ha : JE X ca W a fa) (hb : JE X ca W b fb) : JE X ca W (.Compare a [.Gt] [b] pos) (gtE fa fb) := je_cmp op_gt opv_gt.d ha hb (nomark _)
theorem je_ge (ha : JE X ca W a fa) (hb : JE X ca W b fb) : JE X ca W (.Compare a [.GtE] [b] pos) (geE fa fb) := je_cmp op_ge opv_ge.d ha hb (nomark _)
theorem je_eq (hu : X.A.units + 64 < cLine) (ha : JE X ca W a fa) (hb : JE X ca W b fb) : JE X ca W (.Compare a [.Eq] [b] pos) (eqE fa fb) := je_cmp (op_eqD hu) opv_eq.d ha hb (nomark _)
theorem je_ne (hu : X.A.units + 64 < cLine) (ha : JE X ca W a fa) (hb : JE X ca W b fb) : JE X ca W (.Compare a [.NotEq] [b] pos) (neE fa fb) := je_cmp (op_neD hu) opv_ne.d ha hb (nomark _)
theorem je_in (hu : X.A.units + 65 < cLine) (ha : JE X ca W a fa) (hb : JE X ca W b fb) (hm : behindInMarks .In b = false := by first | rfl | with_unfolding_all rfl) : JE X ca W (.Compare a [.In] [b] pos) (inE fa fb) := je_cmp (op_in1 hu) opv_in.d ha hb hm
theorem je_nin (hu : X.A.units + 65 < cLine) (ha : JE X ca W a fa) (hb : JE X ca W b fb) (hm : behindInMarks .NotIn b = false := by first | rfl | with_unfolding_all rfl) : JE X ca W (.Compare a [.NotIn] [b] pos) (ninE fa fb) := je_cmp (op_notIn1 hu) opv_in.d ha hb hm
theorem jt_lt (ha : JE X ca W a fa) (hb : JE X ca W b fb) : JT X ca W (.Compare a [.Lt] [b] pos) (ltE fa fb) := jt_cmp op_lt opv_lt.d ha hb (nomark _)
theorem jt_le (ha : JE X ca W a fa) (hb : JE X ca W b fb) : JT X ca W (.Compare a [.LtE] [b] pos) (leE fa fb) := jt_cmp op_le opv_le.d ha hb (nomark _)
theorem jt_gt (ha : JE X ca W a fa) (hb : JE X ca W b fb) : JT X ca W (.Compare a [.Gt] [b] pos) (gtE fa fb) := jt_cmp op_gt opv_gt.d ha hb (nomark _)
theorem jt_ge (ha : JE X ca W a fa) (hb : JE X ca W b fb) : JT X ca W (.Compare a [.GtE] [b] pos) (geE fa fb) := jt_cmp op_ge opv_ge.d ha hb (nomark _)
theorem jt_eq (hu : X.A.units + 64 < cLine) (ha : JE X ca W a fa) (hb : JE X ca W b fb) : JT X ca W (.Compare a [.Eq] [b] pos) (eqE fa fb) := jt_cmp (op_eqD hu) opv_eq.d ha hb (nomark _)
theorem jt_ne (hu : X.A.units + 64 < cLine) (ha : JE X ca W a fa) (hb : JE X ca W b fb) : JT X ca W (.Compare a [.NotEq] [b] pos) (neE fa fb) := jt_cmp (op_neD hu) opv_ne.d ha hb (nomark _)
theorem jt_in (hu : X.A.units + 65 < cLine) (ha : JE X ca W a fa) (hb : JE X ca W b fb) (hm : behindInMarks .In b = false := by first | rfl | with_unfolding_all rfl) : JT X ca W (.Compare a [.In] [b] pos) (inE fa fb) := jt_cmp (op_in1 hu) opv_in.d ha hb hm
theorem jt_nin (hu : X.A.units + 65 < cLine) (ha : JE X ca W a fa) (hb : JE X ca W b fb) (hm : behindInMarks .NotIn b = false := by first | rfl | with_unfolding_all rfl) : JT X ca W (.Compare a [.NotIn] [b] pos) (ninE fa fb) := jt_cmp (op_notIn1 hu) opv_in.d ha hb hm
/-- a op b op' c, ints -/
def chE (g g' : PyData → PyData → Option EV) (fa fb fc : DE) : DE := fun env S => (fa env S).bind fun x S1 => (fb env S1).bind fun y S2 => (vOp g x y S2).bindB fun k S3 => if k = true then (fc env S3).bind fun z S4 => vOp g' y z S4 else .ok (bE false) S3
theorem te_ch {K : PySem.W.Frag} {r r' : R2} {g g' : PyData → PyData → Option EV} (hg : ∀ a b ev, g a b = some ev → ∃ k, ev = bE k) (o : OpV K ca W r g) (o' : OpV K ca W r' g') {σ : L2.St} {H : Hp} {Q : VK} (h : dTE K ca W (chE g g' fa fb fc) σ H Q) :
    tChain r r' (dTE K ca W fa) (dTE K ca W fb) (dTE K ca W fc) σ H Q :=
  te1 (k := fun env x S1 => (fb env S1).bind fun y S2 => (vOp g x y S2).bindB fun k S3 => if k = true then (fc env S3).bind fun z S4 => vOp g' y z S4 else .ok (bE false) S3) h fun H0 F ρ S env s x S1 v F1 H1 ρ1 n r1 p =>
    te2 n p fun y S2 v2 F2 H2 ρ2 n2 st r2 p2 => by
      unfold vOp at p2
      cases q1 : x.view S2 with
      | none => simp only [q1, RE.bindB] at p2; exact p2.elim
      | some a =>
        cases q2 : y.view S2 with
        | none => simp only [q1, q2, RE.bindB] at p2; exact p2.elim
        | some b =>
          cases q3 : g a b with
          | none => simp only [q1, q2, q3, toRE, RE.bindB] at p2; exact p2.elim
          | some ev =>
            obtain ⟨k, rfl⟩ := hg a b ev q3
            simp only [q1, q2, q3, toRE, bE, RE.bindB] at p2
            have r2' := r2.base n.stp.mono
            have s2 : Now K ca H0 env σ F2 H2 ρ2 F2 H2 ρ2 S2 := ⟨Stp.refl _ _ _, n2.sim⟩
            refine o H0 env σ F2 H2 ρ2 F2 H2 ρ2 S2 v v2 a b _ _ s2 (vw_of n2.sim (r1.step st) q1) (vw_of n2.sim r2' q2) q3 ?_
            intro w F3 H3 ρ3 n3 rw'
            cases rw'
            refine ⟨k, rfl, ?_⟩
            have n3' : Now K ca H0 env σ F H ρ F3 H3 ρ3 S2 := ⟨n2.stp.trans n3.stp, n3.sim⟩
            cases k with
            | false => exact iteF (fin_d n3' p2 (.bl _))
            | true =>
              refine iteT (te2 (k := fun z S4 => vOp g' y z S4) n3' p2 fun z S4 v4 F4 H4 ρ4 n4 st4 r4 p4 => ?_)
              exact o'.d H0 env σ F H ρ F4 H4 ρ4 S4 v2 v4 y z Q n4 ((r2'.step n3.stp).step st4) (r4.base n3'.stp.mono) p4
theorem je_leLe {c : Expr} (ha : JE X ca W a fa) (hb : JE X ca W b fb) (hc : JE X ca W c fc) (hm : lastMarks [.LtE, .LtE] [b, c] = false := by with_unfolding_all rfl) : JE X ca W (.Compare a [.LtE, .LtE] [b, c] pos) (chE leG leG fa fb fc) :=
  imp_e (pe_chain op_le op_le ha hb hc hm) fun σ H Q h => te_ch (fun a b ev e => by unfold leG at e; split at e <;> cases e; exact ⟨_, rfl⟩) opv_le opv_le h
theorem je_leLt {c : Expr} (ha : JE X ca W a fa) (hb : JE X ca W b fb) (hc : JE X ca W c fc) (hm : lastMarks [.LtE, .Lt] [b, c] = false := by with_unfolding_all rfl) : JE X ca W (.Compare a [.LtE, .Lt] [b, c] pos) (chE leG ltG fa fb fc) :=
  imp_e (pe_chain op_le op_lt ha hb hc hm) fun σ H Q h => te_ch (fun a b ev e => by unfold leG at e; split at e <;> cases e; exact ⟨_, rfl⟩) opv_le opv_lt h
theorem jt_leLe {c : Expr} (ha : JE X ca W a fa) (hb : JE X ca W b fb) (hc : JE X ca W c fc) (hm : lastMarks [.LtE, .LtE] [b, c] = false := by with_unfolding_all rfl) : JT X ca W (.Compare a [.LtE, .LtE] [b, c] pos) (chE leG leG fa fb fc) :=
  imp_t (pt_chain op_le op_le ha hb hc hm) fun σ H Q h => te_ch (fun a b ev e => by unfold leG at e; split at e <;> cases e; exact ⟨_, rfl⟩) opv_le opv_le (tt_te h)
theorem jt_leLt {c : Expr} (ha : JE X ca W a fa) (hb : JE X ca W b fb) (hc : JE X ca W c fc) (hm : lastMarks [.LtE, .Lt] [b, c] = false := by with_unfolding_all rfl) : JT X ca W (.Compare a [.LtE, .Lt] [b, c] pos) (chE leG ltG fa fb fc) :=
  imp_t (pt_chain op_le op_lt ha hb hc hm) fun σ H Q h => te_ch (fun a b ev e => by unfold leG at e; split at e <;> cases e; exact ⟨_, rfl⟩) opv_le opv_lt (tt_te h)
/-! ### truth, and, or, not, a if t else b -/
def truG : PyData → Option EV
  | .none => some (bE false)
  | .bool b => some (bE b)
  | .int i => some (bE (i != 0))
  | .str y => if y.length ≤ LIM then some (bE ((y.length : Int) != 0)) else none
  | .list xs => some (bE (!xs.isEmpty))
  | .tuple xs => some (bE (!xs.isEmpty))
  | .dict ks => some (bE (!ks.isEmpty))
abbrev truE : DE → DE := RE1 (vUn truG)
theorem empty_rep {K : PySem.W.Frag} {F : Hp} {vs : List V} {xs : List PyData} (r : DrAll K F vs xs) : (!xs.isEmpty) = !vs.isEmpty := by cases r <;> rfl
theorem emptyK_rep {K : PySem.W.Frag} {F : Hp} {vs : List (Key × V)} {xs : List (PyData × PyData)} (r : DrKv K F vs xs) : (!xs.isEmpty) = !vs.isEmpty := by cases r <;> rfl
theorem unv_tru {K : PySem.W.Frag} {R : Bool → Hp → Prop} : UnV K ca W (fun x H' Q => ∃ k, TruV K x H' k ∧ Q (.bl k) H') truG := by
  intro H0 env σ F H ρ F' H' ρ' S' v1 a ev Q n r e p
  have hL := lim_eq
  unfold truG at e
  split at e
  · cases e; cases r; exact ⟨false, rfl, fin_d n p (.bl _)⟩
  · cases e; cases r; exact ⟨_, rfl, fin_d n p (.bl _)⟩
  · cases e; cases r; exact ⟨_, rfl, fin_d n p (.bl _)⟩
  · split at e
    · cases e; cases r; exact ⟨_, ⟨by omega, rfl⟩, fin_d n p (.bl _)⟩
    · cases e
  · cases e
    obtain ⟨a1, vs1, e1, h1, d1⟩ := r
    subst e1
    exact ⟨_, .inl ⟨vs1, SqL.of h1, empty_rep d1⟩, fin_d n p (.bl _)⟩
  · cases e
    cases r with
    | tup h1 d1 => exact ⟨_, .inr (.inl ⟨_, same_t n.sim.fz h1, empty_rep d1⟩), fin_d n p (.bl _)⟩
  · cases e
    obtain ⟨a1, vs1, e1, h1, d1⟩ := r
    subst e1
    exact ⟨_, .inr (.inr ⟨vs1, h1, emptyK_rep d1⟩), fin_d n p (.bl _)⟩
theorem jt_tru (h : JE X ca W a fa) (he : ∀ whole, isTrue a X.env whole = (do let v ← whole; standAt a.pos; holding [v] (truthy v)) := by intro _; rfl) : JT X ca W a (truE fa) :=
  imp_t (pt_truth h he) fun σ H Q h => by
    have h2 := te_un (unv_tru (R := Q)).d (tt_te h)
    refine te_mono (fun x H1 q => ?_) h2
    obtain ⟨k, hk, k', e, q⟩ := q
    cases e
    exact ⟨k, hk, q⟩
end
end DL

set_option Elab.async false
set_option linter.all false
set_option maxRecDepth 100000
set_option maxHeartbeats 4000000
/-! DL6: and, or, not, built-ins by name. -/
namespace DL
open PySem PySem.Spec PyProof.Rows L2

def andE (fa fb : DE) : DE := fun env S => (fa env S).bindB fun k S1 => if k = true then fb env S1 else .ok (bE false) S1
def orE (fa fb : DE) : DE := fun env S => (fa env S).bindB fun k S1 => if k = true then .ok (bE true) S1 else fb env S1
def notE (fa : DE) : DE := fun env S => (fa env S).bindB fun k S1 => .ok (bE (!k)) S1
def ifE (ft fa fb : DE) : DE := fun env S => (ft env S).bindB fun k S1 => if k = true then fa env S1 else fb env S1
section
variable {K : PySem.W.Frag} {ca : Str → Addr} {W : WX} {σ : L2.St} {H : Hp} {Q : VK} {fa fb fc : DE}
/-- the first part, a bool -/
theorem te1B {f : DE} {k : Env → Bool → Store → RE} {R : VK} (h : dTE K ca W (fun env S => (f env S).bindB (k env)) σ H Q)
    (hk : ∀ H0 F ρ S env, Sim K ca H0 F ρ S env σ H → ∀ b S1 F1 H1 ρ1, Now K ca H0 env σ F H ρ F1 H1 ρ1 S1 → PostE K ca W H0 env σ F H ρ Q (k env b S1) → R (.bl b) H1) : dTE K ca W f σ H R := by
  have h2 : dTT K ca W f σ H (fun b H1 => R (.bl b) H1) := tt1 h fun H0 F ρ S env s b S1 F1 H1 ρ1 n p => hk H0 F ρ S env s b S1 F1 H1 ρ1 n p
  refine te_mono (fun x H1 q => ?_) (tt_te h2)
  obtain ⟨b, e, q⟩ := q
  subst e
  exact q
theorem go_on {g : DE} {F H' F1 H1 H0 : Hp} {ρ ρ1 : List Addr} {S1 : Store} {env : Env} (n : Now K ca H0 env σ F H ρ F1 H1 ρ1 S1) (p : PostE K ca W H0 env σ F H ρ Q (g env S1)) : dTE K ca W g σ H1 Q :=
  ⟨H0, F1, ρ1, S1, env, n.sim, PostE.on n p⟩
theorem go_onT {g : DE} {R : Bool → Hp → Prop} {F H' F1 H1 H0 : Hp} {ρ ρ1 : List Addr} {S1 : Store} {env : Env} (n : Now K ca H0 env σ F H ρ F1 H1 ρ1 S1) (p : PostT K ca W H0 env σ F H ρ R (g env S1)) : dTT K ca W g σ H1 R :=
  ⟨H0, F1, ρ1, S1, env, n.sim, PostT.on n p⟩
theorem te_and (h : dTE K ca W (andE fa fb) σ H Q) : tAndV (dTE K ca W fa) (dTE K ca W fb) σ H Q :=
  te1B (k := fun env k S1 => if k = true then fb env S1 else .ok (bE false) S1) h fun H0 F ρ S env s b S1 F1 H1 ρ1 n p => ⟨b, rfl, by
    cases b with
    | true => exact iteT (go_on (H' := H1) n p)
    | false => exact iteF (fin_d n p (.bl _))⟩
theorem te_or (h : dTE K ca W (orE fa fb) σ H Q) : tOrV (dTE K ca W fa) (dTE K ca W fb) σ H Q :=
  te1B (k := fun env k S1 => if k = true then .ok (bE true) S1 else fb env S1) h fun H0 F ρ S env s b S1 F1 H1 ρ1 n p => ⟨b, rfl, by
    cases b with
    | false => exact iteF (go_on (H' := H1) n p)
    | true => exact iteT (fin_d n p (.bl _))⟩
theorem te_not (h : dTE K ca W (notE fa) σ H Q) : tNotV (dTE K ca W fa) σ H Q :=
  te1B (k := fun env k S1 => .ok (bE (!k)) S1) h fun H0 F ρ S env s b S1 F1 H1 ρ1 n p => ⟨b, rfl, fin_d n p (.bl _)⟩
theorem te_if (h : dTE K ca W (ifE fa fb fc) σ H Q) : tIf (dTT K ca W fa) (dTE K ca W fb) (dTE K ca W fc) σ H Q :=
  tt1 (k := fun env k S1 => if k = true then fb env S1 else fc env S1) h fun H0 F ρ S env s b S1 F1 H1 ρ1 n p => by
    cases b with
    | true => exact iteT (go_on (H' := H1) n p)
    | false => exact iteF (go_on (H' := H1) n p)
theorem tt_and {R : Bool → Hp → Prop} (h : dTT K ca W (andE fa fb) σ H R) : tAnd (dTT K ca W fa) (dTT K ca W fb) σ H R :=
  tt2 (k := fun env k S1 => if k = true then fb env S1 else .ok (bE false) S1) h fun H0 F ρ S env s b S1 F1 H1 ρ1 n p => by
    cases b with
    | true => exact iteT (go_onT (H' := H1) n p)
    | false => exact iteF (p _ _ _ n)
theorem tt_or {R : Bool → Hp → Prop} (h : dTT K ca W (orE fa fb) σ H R) : tOr (dTT K ca W fa) (dTT K ca W fb) σ H R :=
  tt2 (k := fun env k S1 => if k = true then .ok (bE true) S1 else fb env S1) h fun H0 F ρ S env s b S1 F1 H1 ρ1 n p => by
    cases b with
    | false => exact iteF (go_onT (H' := H1) n p)
    | true => exact iteT (p _ _ _ n)
theorem tt_not {R : Bool → Hp → Prop} (h : dTT K ca W (notE fa) σ H R) : tNot (dTT K ca W fa) σ H R :=
  tt2 (k := fun env k S1 => .ok (bE (!k)) S1) h fun H0 F ρ S env s b S1 F1 H1 ρ1 n p => p _ _ _ n
end
section
variable {X : Cx} {ca : Str → Addr} {W : WX} {a b c : Expr} {es rest : List Expr} {fa fb fc : DE} {pos : Pos}
theorem je_one {op} (h : JE X ca W a fa) : JE X ca W (.BoolOp op [a] pos) fa := pe_one h
theorem je_and (ha : JE X ca W a fa) (hb : JE X ca W (.BoolOp .And (b :: rest) pos) fb) : JE X ca W (.BoolOp .And (a :: b :: rest) pos) (andE fa fb) := imp_e (pe_and ha hb) fun σ H Q h => te_and h
theorem je_or (ha : JE X ca W a fa) (hb : JE X ca W (.BoolOp .Or (b :: rest) pos) fb) : JE X ca W (.BoolOp .Or (a :: b :: rest) pos) (orE fa fb) := imp_e (pe_or ha hb) fun σ H Q h => te_or h
theorem je_not (ha : JE X ca W a fa) : JE X ca W (.UnaryOp .Not a pos) (notE fa) := imp_e (pe_not ha) fun σ H Q h => te_not h
theorem je_if (hc : JT X ca W c fc) (ha : JE X ca W a fa) (hb : JE X ca W b fb) : JE X ca W (.IfExp c a b pos) (ifE fc fa fb) := imp_e (pe_ifExp hc ha hb) fun σ H Q h => te_if h
theorem jw_and1 (ha : JT X ca W a fa) : JW X ca W (.BoolOp .And [a] pos) fa := pw_and1 ha
theorem jw_or1 (ha : JT X ca W a fa) : JW X ca W (.BoolOp .Or [a] pos) fa := pw_or1 ha
theorem jw_and (ha : JT X ca W a fa) (hb : JW X ca W (.BoolOp .And (b :: rest) pos) fb) : JW X ca W (.BoolOp .And (a :: b :: rest) pos) (andE fa fb) := imp_w (pw_and ha hb) fun σ H Q h => tt_and h
theorem jw_or (ha : JT X ca W a fa) (hb : JW X ca W (.BoolOp .Or (b :: rest) pos) fb) : JW X ca W (.BoolOp .Or (a :: b :: rest) pos) (orE fa fb) := imp_w (pw_or ha hb) fun σ H Q h => tt_or h
theorem jt_w (h : JW X ca W a fa) : JT X ca W a fa := PW.pt h
theorem jt_not (ha : JT X ca W a fa) : JT X ca W (.UnaryOp .Not a pos) (notE fa) := imp_t (pt_not ha) fun σ H Q h => tt_not h
/-- an expression that gives a bool, as a test -/
theorem jt_val (h : JE X ca W a fa) (he : ∀ whole, isTrue a X.env whole = (do let v ← whole; standAt a.pos; holding [v] (truthy v)) := by intro _; rfl) : JT X ca W a fa :=
  imp_t (pt_val h he) fun σ H Q h => tt_te h
/-! ### built-ins -/
theorem je_b1 {x : Str} {p : Pos} {id : String} {r : List V → Hp → VK → Prop} {k : EV → Store → RE} (c : CallR X (.builtin id) r) (d : UnD X.K ca W (fun v H Q => r [v] H Q) k) (hg : Gl X x) (hm : X.mg x = none) (hv : bootBuiltins x = some (.builtin id)) (h : JE X ca W a fa)
    (hn : x ≠ "__name__" := by decide) (hdb : (x == ("__debug__" : Str)) = false := by decide) (he : starEach [a] X.env = (false, eval a X.env) :: starEach [] X.env := by rfl) : JE X ca W (.Call (.Name x p) [a] [] pos) (RE1 k fa) := imp_e (pe_callB c hg hm hv (pa_cons h pa_nil he) hn hdb he) fun σ H Q h => te_un d h
theorem je_t1 {x : Str} {p : Pos} {id : String} {r : List V → Hp → VK → Prop} {k : EV → Store → RE} (c : CallR X (.type id) r) (d : UnD X.K ca W (fun v H Q => r [v] H Q) k) (hg : Gl X x) (hm : X.mg x = none) (hv : bootBuiltins x = some (.type id)) (h : JE X ca W a fa)
    (hn : x ≠ "__name__" := by decide) (hdb : (x == ("__debug__" : Str)) = false := by decide) (he : starEach [a] X.env = (false, eval a X.env) :: starEach [] X.env := by rfl) : JE X ca W (.Call (.Name x p) [a] [] pos) (RE1 k fa) := imp_e (pe_callTy c hg hm hv (pa_cons h pa_nil he) hn hdb he) fun σ H Q h => te_un d h
theorem je_b2 {x : Str} {p : Pos} {id : String} {r : List V → Hp → VK → Prop} {k : EV → EV → Store → RE} (c : CallR X (.builtin id) r) (d : OpD X.K ca W (fun v u H Q => r [v, u] H Q) k) (hg : Gl X x) (hm : X.mg x = none) (hv : bootBuiltins x = some (.builtin id)) (h : JE X ca W a fa) (h2 : JE X ca W b fb)
    (hn : x ≠ "__name__" := by decide) (hdb : (x == ("__debug__" : Str)) = false := by decide) (he : starEach [a, b] X.env = (false, eval a X.env) :: starEach [b] X.env := by rfl) (he2 : starEach [b] X.env = (false, eval b X.env) :: starEach [] X.env := by rfl) : JE X ca W (.Call (.Name x p) [a, b] [] pos) (RE2 k fa fb) := imp_e (pe_callB c hg hm hv (pa_cons h (pa_cons h2 pa_nil he2) he) hn hdb he (by rw [he2]; rfl)) fun σ H Q h => te_op d h
end
def lenG : PyData → Option EV
  | .list xs => some (iE xs.length)
  | .tuple xs => some (iE xs.length)
  | .str z => if z.length ≤ LIM then some (iE z.length) else none
  | _ => none
def kLen : EV → Store → RE := fun x S => match x with
  | .scr ns => .ok (iE ns.length) S
  | x => vUn lenG x S
def intG : PyData → Option EV
  | .int i => some (iE i)
  | .bool b => some (iE (if b then 1 else 0))
  | _ => none
def tupG : PyData → Option EV
  | .list xs => some (.d (.tuple xs))
  | .tuple xs => some (.d (.tuple xs))
  | _ => none
def listG : PyData → Option EV
  | .list xs => some (.own xs)
  | .tuple xs => some (.own xs)
  | .str z => if z.length ≤ LIM then some (.own (z.cps.toList.map fun c => .str ⟨#[c]⟩)) else none
  | _ => none
def allBools : List PyData → Option (List Bool)
  | [] => some []
  | .bool b :: xs => (allBools xs).map (b :: ·)
  | _ :: _ => none
def allG : PyData → Option EV
  | .list xs => (allBools xs).map fun bs => bE (bs.all id)
  | _ => none
def anyG : PyData → Option EV
  | .list xs => (allBools xs).map fun bs => bE (bs.any id)
  | _ => none
def minG : PyData → PyData → Option EV
  | .int i, .int j => some (iE (if j < i then j else i))
  | _, _ => none
def maxG : PyData → PyData → Option EV
  | .int i, .int j => some (iE (if j > i then j else i))
  | _, _ => none
def tyD : PyData → String
  | .none => "NoneType"
  | .bool _ => "bool"
  | .int _ => "int"
  | .str _ => "str"
  | .list _ => "list"
  | .tuple _ => "tuple"
  | .dict _ => "dict"
def isiG (T : String) (x : PyData) : Option EV := some (bE (tyD x == T || (tyD x == "bool" && T == "int")))
section
variable {K : PySem.W.Frag} {ca : Str → Addr} {W : WX}
theorem und_len : UnD K ca W (fun v H Q => ∃ x n, [v] = [x] ∧ LenV K x H n ∧ Q (.int n) H) kLen := by
  intro H0 env σ F H ρ F' H' ρ' S' v1 x Q n r p
  have main : PostE K ca W H0 env σ F H ρ Q (vUn lenG x S') → ∃ x n, [v1] = [x] ∧ LenV K x H' n ∧ Q (.int n) H' := fun p => by
    refine (UnV.d (r := fun v H Q => ∃ x n, [v] = [x] ∧ LenV K x H n ∧ Q (.int n) H) (fun H0 env σ F H ρ F' H' ρ' S' v1 a ev Q n r e p => ?_)) H0 env σ F H ρ F' H' ρ' S' v1 x Q n r p
    have hL := lim_eq
    unfold lenG at e
    split at e
    · cases e
      obtain ⟨a1, vs1, e1, h1, d1⟩ := r
      subst e1
      rw [← d1.length] at p
      exact ⟨_, _, rfl, .inl ⟨vs1, SqL.of h1, rfl⟩, fin_d n p (.int _)⟩
    · cases e
      cases r with
      | tup h1 d1 =>
        rw [← d1.length] at p
        exact ⟨_, _, rfl, .inr ⟨_, same_t n.sim.fz h1, rfl⟩, fin_d n p (.int _)⟩
    · cases r
      split at e
      · cases e
        exact ⟨_, _, rfl, ⟨by omega, rfl⟩, fin_d n p (.int _)⟩
      · cases e
    · cases e
  unfold kLen at p
  split at p
  · obtain ⟨a, e1, hs⟩ := r
    subst e1
    rename_i ns
    refine ⟨_, _, rfl, .inl ⟨_, same_l n.sim.fz hs, rfl⟩, ?_⟩
    rw [List.length_map]
    exact fin_d n p (.int _)
  · exact main p
theorem unv_int : UnV K ca W (fun v H Q => (∃ i, [v] = [.int i] ∧ Q (.int i) H) ∨ ∃ k, [v] = [.bl k] ∧ Q (.int (if k then 1 else 0)) H) intG := by
  intro H0 env σ F H ρ F' H' ρ' S' v1 a ev Q n r e p
  unfold intG at e
  split at e
  · cases e; cases r; exact .inl ⟨_, rfl, fin_d n p (.int _)⟩
  · cases e; cases r; exact .inr ⟨_, rfl, fin_d n p (.int _)⟩
  · cases e
theorem unv_tup : UnV K ca W (fun v H Q => ∃ p ys, [v] = [.ref p] ∧ ((SqL K H p ys ∧ ∀ l, H l = none → Q (.ref l) (upd H l (.tup ys))) ∨ (SqT K H p ys ∧ Q (.ref p) H))) tupG := by
  intro H0 env σ F H ρ F' H' ρ' S' v1 a ev Q n r e p
  unfold tupG at e
  split at e
  · cases e
    obtain ⟨a1, vs1, e1, h1, d1⟩ := r
    subst e1
    exact ⟨a1, vs1, rfl, .inl ⟨SqL.of h1, fun pt hp => fin_t n p d1 hp⟩⟩
  · cases e
    cases r with
    | tup h1 d1 => exact ⟨_, _, rfl, .inr ⟨same_t n.sim.fz h1, fin_d n p (.tup h1 d1)⟩⟩
  · cases e
def signsV (z : Str) : List V := z.cps.toList.map fun c => V.str ⟨#[c]⟩
theorem signs_rep {F : Hp} : ∀ l : List Nat, DrAll K F (l.map fun c => V.str ⟨#[c]⟩) (l.map fun c => PyData.str ⟨#[c]⟩)
  | [] => .nil
  | c :: l => .cons (.str _) (signs_rep l)
def rListStr : List V → Hp → VK → Prop := fun xs H Q => ∃ z, xs = [.str z] ∧ z.length ≤ sizeLine ∧ ∀ l, H l = none → Q (.ref l) (upd H l (.lst (signsV z)))
theorem call_list_strL {X : Cx} (hc : X.calm = true) : CallR X (.type "list") rListStr := by
  intro pins s σ H xs us Q I r h
  obtain ⟨z, rfl, hz, q⟩ := h
  obtain ⟨u, rfl, t, rfl⟩ := vals1 r
  refine call_list_str (I.ok.hd hc) z t (fun h' tk acc' c' hk hl hi => ?_) hz
  have hn := I.hok.fresh (Nat.le_refl s.heap.objs.size)
  obtain ⟨hsz, hit⟩ := hi
  refine ⟨.ref s.heap.objs.size, _, I.laid (t' := tk) (o := .lst (signsV z)) hk (Nat.le_refl _) ⟨?_, acc'.toList, c', ?_, by simpa using hl⟩, rfl, q _ hn⟩
  · unfold signsV
    rw [List.length_map, Array.length_toList]
    exact hz
  · refine vals_of_at ?_ fun j x u e1 e2 => ?_
    · unfold signsV
      rw [List.length_map, Array.length_toList, Array.length_toList, hsz]
    · unfold signsV at e1
      rw [List.getElem?_map] at e1
      cases q1 : z.cps.toList[j]? with
      | none => rw [q1] at e1; cases e1
      | some c =>
        rw [q1] at e1
        cases e1
        obtain ⟨c', t', e3, e4⟩ := hit j u (by simpa using e2)
        have e5 : z.cps[j]? = some c := by simpa using q1
        rw [e5] at e3
        cases e3
        exact ⟨t', e4⟩
def rList1 (K : PySem.W.Frag) : List V → Hp → VK → Prop := fun xs H Q => (∃ p ys, xs = [.ref p] ∧ (SqL K H p ys ∨ SqT K H p ys) ∧ ∀ l, H l = none → Q (.ref l) (upd H l (.lst ys))) ∨ rListStr xs H Q
theorem call_list1 {X : Cx} (hc : X.calm = true) : CallR X (.type "list") (rList1 X.K) := call_list_of.or (call_list_strL hc)
theorem unv_list : UnV K ca W (fun v H Q => rList1 K [v] H Q) listG := by
  intro H0 env σ F H ρ F' H' ρ' S' v1 a ev Q n r e p
  have hL := lim_eq
  unfold listG at e
  split at e
  · cases e
    obtain ⟨a1, vs1, e1, h1, d1⟩ := r
    subst e1
    exact .inl ⟨a1, vs1, rfl, .inl (SqL.of h1), fun pt hp => fin_l n p d1 hp⟩
  · cases e
    cases r with
    | tup h1 d1 => exact .inl ⟨_, _, rfl, .inr (same_t n.sim.fz h1), fun pt hp => fin_l n p d1 hp⟩
  · cases r
    split at e
    · cases e
      exact .inr ⟨_, rfl, by omega, fun pt hp => fin_l n p (signs_rep _) hp⟩
    · cases e
  · cases e
theorem bools_rep {F : Hp} : ∀ {vs : List V} {xs : List PyData} {bs : List Bool}, DrAll K F vs xs → allBools xs = some bs → vs = bs.map V.bl
  | _, _, bs, .nil, e => by cases e; rfl
  | v :: vs, x :: xs, bs, .cons h r, e => by
    cases x with
    | bool b =>
      obtain ⟨bs', e1, e2⟩ := Option.map_eq_some_iff.mp e
      subst e2
      cases h
      rw [bools_rep r e1]
      rfl
    | _ => cases e
theorem unv_all : UnV K ca W (fun v H Q => rAll K [v] H Q) allG := by
  intro H0 env σ F H ρ F' H' ρ' S' v1 a ev Q n r e p
  unfold allG at e
  split at e
  · obtain ⟨bs, e1, e2⟩ := Option.map_eq_some_iff.mp e
    subst e2
    obtain ⟨a1, vs1, e3, h1, d1⟩ := r
    subst e3
    rw [bools_rep d1 e1] at h1
    exact ⟨a1, bs, rfl, SqL.of h1, fin_d n p (.bl _)⟩
  · cases e
theorem unv_any : UnV K ca W (fun v H Q => rAny K [v] H Q) anyG := by
  intro H0 env σ F H ρ F' H' ρ' S' v1 a ev Q n r e p
  unfold anyG at e
  split at e
  · obtain ⟨bs, e1, e2⟩ := Option.map_eq_some_iff.mp e
    subst e2
    obtain ⟨a1, vs1, e3, h1, d1⟩ := r
    subst e3
    rw [bools_rep d1 e1] at h1
    exact ⟨a1, bs, rfl, SqL.of h1, fin_d n p (.bl _)⟩
  · cases e
theorem opv_min : OpV K ca W (fun v u H Q => ∃ i j, [v, u] = [.int i, .int j] ∧ Q (.int (if j < i then j else i)) H) minG := by
  intro H0 env σ F H ρ F' H' ρ' S' v1 v2 a b ev Q n r1 r2 e p
  unfold minG at e
  split at e
  · cases e; cases r1; cases r2; exact ⟨_, _, rfl, fin_d n p (.int _)⟩
  · cases e
theorem opv_max : OpV K ca W (fun v u H Q => ∃ i j, [v, u] = [.int i, .int j] ∧ Q (.int (if j > i then j else i)) H) maxG := by
  intro H0 env σ F H ρ F' H' ρ' S' v1 v2 a b ev Q n r1 r2 e p
  unfold maxG at e
  split at e
  · cases e; cases r1; cases r2; exact ⟨_, _, rfl, fin_d n p (.int _)⟩
  · cases e
theorem ty_rep {F H : Hp} (f : Same F H) {v : V} {x : PyData} (r : Vw K F H v x) : TyX K H v (.type (tyD x)) := by
  cases x with
  | none => cases r; exact .base .non
  | bool b => cases r; exact .base (.bl _)
  | int b => cases r; exact .base (.int _)
  | str b => cases r; exact .base (.str _)
  | list xs =>
    obtain ⟨a1, vs1, e1, h1, d1⟩ := r
    subst e1
    exact .base (.lst h1)
  | dict xs =>
    obtain ⟨a1, vs1, e1, h1, d1⟩ := r
    subst e1
    exact .base (.dK h1)
  | tuple xs =>
    cases r with
    | tup h1 d1 =>
      rcases h1 with (h1 | ⟨o, h1⟩) | ⟨o, its, n, h1, h2, _⟩
      · exact .base (.tup (f _ _ h1))
      · exact .fTuple (f _ _ h1)
      · exact .kTuple h1 h2
theorem unv_isi {T : String} (hT : T = "str" ∨ T = "int" ∨ T = "bool" ∨ T = "tuple" ∨ T = "list") : UnV K ca W (fun v H Q => rIsi K [v, .ty T] H Q) (isiG T) := by
  intro H0 env σ F H ρ F' H' ρ' S' v1 a ev Q n r e p
  unfold isiG at e
  cases e
  have hk : ∀ b, kitB (tyD a) T = some b → rIsi K [v1, .ty T] H' Q ∨ b ≠ (tyD a == T || (tyD a == "bool" && T == "int")) := fun b hb => by
    by_cases e : b = (tyD a == T || (tyD a == "bool" && T == "int"))
    · exact .inl ⟨v1, .ty T, _, .type T, _, rfl, .ty T, ty_rep n.sim.fz r, kit_ty hb, by rw [e]; exact fin_d n p (.bl _)⟩
    · exact .inr e
  have key : kitB (tyD a) T = some (tyD a == T || (tyD a == "bool" && T == "int")) := by
    have all : ∀ t, t ∈ ["NoneType", "bool", "int", "str", "list", "tuple", "dict"] → ∀ T, T ∈ ["str", "int", "bool", "tuple", "list"] → kitB t T = some (t == T || (t == "bool" && T == "int")) := by decide +kernel
    refine all _ ?_ _ ?_
    · cases a <;> simp [tyD]
    · simpa using hT
  rcases hk _ key with h | h
  · exact h
  · exact absurd rfl h
end
abbrev lenE : DE → DE := RE1 kLen
abbrev intE : DE → DE := RE1 (vUn intG)
abbrev tupOfE : DE → DE := RE1 (vUn tupG)
abbrev listOfE : DE → DE := RE1 (vUn listG)
abbrev allE : DE → DE := RE1 (vUn allG)
abbrev anyE : DE → DE := RE1 (vUn anyG)
abbrev isiE (T : String) : DE → DE := RE1 (vUn (isiG T))
abbrev minE : DE → DE → DE := RE2 (vOp minG)
abbrev maxE : DE → DE → DE := RE2 (vOp maxG)
section
variable {X : Cx} {ca : Str → Addr} {W : WX} {a b c : Expr} {es rest : List Expr} {fa fb fc : DE} {p p2 pos : Pos}
theorem je_len (hg : Gl X "len") (hm : X.mg "len" = none) (h : JE X ca W a fa) (he : starEach [a] X.env = (false, eval a X.env) :: starEach [] X.env := by rfl) : JE X ca W (.Call (.Name "len" p) [a] [] pos) (lenE fa) := je_b1 call_len und_len hg hm PySem.boot_len h (he := he)
theorem je_intOf (hg : Gl X "int") (hm : X.mg "int" = none) (h : JE X ca W a fa) (he : starEach [a] X.env = (false, eval a X.env) :: starEach [] X.env := by rfl) : JE X ca W (.Call (.Name "int" p) [a] [] pos) (intE fa) := je_t1 call_int1 unv_int.d hg hm PyProof.Rows.boot_int h (he := he)
theorem je_tupOf (hg : Gl X "tuple") (hm : X.mg "tuple" = none) (h : JE X ca W a fa) (he : starEach [a] X.env = (false, eval a X.env) :: starEach [] X.env := by rfl) : JE X ca W (.Call (.Name "tuple" p) [a] [] pos) (tupOfE fa) := je_t1 call_tuple_of unv_tup.d hg hm PyProof.Rows.boot_tuple h (he := he)
theorem je_listOf (hc : X.calm = true) (hg : Gl X "list") (hm : X.mg "list" = none) (h : JE X ca W a fa) (he : starEach [a] X.env = (false, eval a X.env) :: starEach [] X.env := by rfl) : JE X ca W (.Call (.Name "list" p) [a] [] pos) (listOfE fa) := je_t1 (call_list1 hc) unv_list.d hg hm PyProof.Rows.boot_list h (he := he)
theorem je_all (hc : X.calm = true) (hg : Gl X "all") (hm : X.mg "all" = none) (h : JE X ca W a fa) (he : starEach [a] X.env = (false, eval a X.env) :: starEach [] X.env := by rfl) : JE X ca W (.Call (.Name "all" p) [a] [] pos) (allE fa) := je_b1 (cr_all hc) unv_all.d hg hm PyProof.Rows.boot_all h (he := he)
theorem je_any (hc : X.calm = true) (hg : Gl X "any") (hm : X.mg "any" = none) (h : JE X ca W a fa) (he : starEach [a] X.env = (false, eval a X.env) :: starEach [] X.env := by rfl) : JE X ca W (.Call (.Name "any" p) [a] [] pos) (anyE fa) := je_b1 (cr_any hc) unv_any.d hg hm PyProof.Rows.boot_any h (he := he)
theorem je_min (hc : X.calm = true) (hg : Gl X "min") (hm : X.mg "min" = none) (h : JE X ca W a fa) (h2 : JE X ca W b fb) (he : starEach [a, b] X.env = (false, eval a X.env) :: starEach [b] X.env := by rfl) (he2 : starEach [b] X.env = (false, eval b X.env) :: starEach [] X.env := by rfl) : JE X ca W (.Call (.Name "min" p) [a, b] [] pos) (minE fa fb) := je_b2 (call_min2 hc) opv_min.d hg hm PyProof.Rows.boot_min h h2 (he := he) (he2 := he2)
theorem je_max (hc : X.calm = true) (hg : Gl X "max") (hm : X.mg "max" = none) (h : JE X ca W a fa) (h2 : JE X ca W b fb) (he : starEach [a, b] X.env = (false, eval a X.env) :: starEach [b] X.env := by rfl) (he2 : starEach [b] X.env = (false, eval b X.env) :: starEach [] X.env := by rfl) : JE X ca W (.Call (.Name "max" p) [a, b] [] pos) (maxE fa fb) := je_b2 (call_max2 hc) opv_max.d hg hm PyProof.Rows.boot_max h h2 (he := he) (he2 := he2)
theorem je_isi {T : String} {x : Str} (hT : T = "str" ∨ T = "int" ∨ T = "bool" ∨ T = "tuple" ∨ T = "list") (hg : Gl X "isinstance") (hm : X.mg "isinstance" = none) (hgT : Gl X x) (hmT : X.mg x = none) (hvT : bootBuiltins x = some (.type T)) (h : JE X ca W a fa) (hn : x ≠ "__name__" := by decide) (hdb : (x == ("__debug__" : Str)) = false := by decide) (he : starEach [a, .Name x p2] X.env = (false, eval a X.env) :: starEach [.Name x p2] X.env := by rfl) (he2 : starEach [.Name x p2] X.env = (false, eval (.Name x p2) X.env) :: starEach [] X.env := by rfl) :
    JE X ca W (.Call (.Name "isinstance" p) [a, .Name x p2] [] pos) (isiE T fa) :=
  imp_e (pe_callB call_isi hg hm PyProof.Rows.boot_isinstance (pa_cons h (pa_cons (pe_bltn (v := .ty T) hgT hmT hvT rfl hn hdb) pa_nil he2) he) (he := he) (hpl := by rw [he2]; rfl)) fun σ H Q h => te_un (unv_isi hT).d h
end
end DL

set_option Elab.async false
set_option linter.all false
set_option maxRecDepth 100000
set_option maxHeartbeats 4000000
/-! DL7: statements. -/
namespace DL
open PySem PySem.Spec PyProof.Rows L2

/-- a def's entry -/
structure Ses where
  H0 : Hp
  F0 : Hp
  r0 : List Addr
section
variable (K : PySem.W.Frag) (ca : Str → Addr) (W : WX) (z : Ses)
structure SimS (F : Hp) (ρ : List Addr) (S : Store) (env : Env) (σ : L2.St) (H : Hp) : Prop where
  sim : Sim K ca z.H0 F ρ S env σ H
  stp : Stp z.F0 z.H0 z.r0 F H ρ
def PostS (F : Hp) (D : Ends) : RS → Prop
  | .next env' S' => ∀ σ' F' H' ρ', Same F F' → SimS K ca z F' ρ' S' env' σ' H' → D.nx σ' H'
  | .brk env' S' => ∀ σ' F' H' ρ', Same F F' → SimS K ca z F' ρ' S' env' σ' H' → D.bk σ' H'
  | .cont env' S' => ∀ σ' F' H' ρ', Same F F' → SimS K ca z F' ρ' S' env' σ' H' → D.ct σ' H'
  | .ret r S' => ∀ v F' H' ρ', Stp z.F0 z.H0 z.r0 F' H' ρ' → Sim K ca z.H0 F' ρ' S' [] [] H' → RepV K F' ρ' z.H0 H' v r → D.rt v H'
  | .raise ex env' S' => ∀ cls d σ' F' H' ρ', Same F F' → SimS K ca z F' ρ' S' env' σ' H' → ExcRep K ca F' H' cls d ex → W cls d σ' H'
  | .stuck => False
def dTS (g : DS) : TS := fun D σ H => ∃ F ρ S env, SimS K ca z F ρ S env σ H ∧ PostS K ca W z F D (g env S)
end
abbrev JS (X : Cx) (ca : Str → Addr) (W : WX) (st : Stmt) (g : DS) : Prop := ∀ z, PS X st (dTS X.K ca W z g)
abbrev JSs (X : Cx) (ca : Str → Addr) (W : WX) (sts : List Stmt) (g : DS) : Prop := ∀ z, PSs X sts (dTS X.K ca W z g)
theorem imp_s {X : Cx} {st : Stmt} {t t' : TS} (h : PS X st t) (i : ∀ D σ H, t' D σ H → t D σ H) : PS X st t' := ⟨fun pins s σ H D I q => h.run pins s σ H D I (i D σ H q)⟩
theorem imp_ss {X : Cx} {st : List Stmt} {t t' : TS} (h : PSs X st t) (i : ∀ D σ H, t' D σ H → t D σ H) : PSs X st t' := ⟨fun pins s σ H D I q => h.run pins s σ H D I (i D σ H q)⟩

section
variable {K : PySem.W.Frag} {ca : Str → Addr} {W : WX} {z : Ses} {F H F' H' F1 H1 F2 H2 B : Hp} {ρ ρ' ρ1 ρ2 : List Addr} {S S' S1 S2 : Store} {env env' : Env} {σ σ' : L2.St} {v : V} {ev : EV} {D : Ends}
theorem PostS.mono {r : RS} (e : Same F F1) (p : PostS K ca W z F D r) : PostS K ca W z F1 D r := by
  cases r with
  | next env' S' => exact fun σ' F' H' ρ' f s => p σ' F' H' ρ' (e.trans f) s
  | brk env' S' => exact fun σ' F' H' ρ' f s => p σ' F' H' ρ' (e.trans f) s
  | cont env' S' => exact fun σ' F' H' ρ' f s => p σ' F' H' ρ' (e.trans f) s
  | ret r S' => exact p
  | raise ex env' S' => exact fun cls d σ' F' H' ρ' f s r => p cls d σ' F' H' ρ' (e.trans f) s r
  | stuck => exact p
theorem SimS.on (s : SimS K ca z F ρ S env σ H) (n : Now K ca z.H0 env σ F H ρ F1 H1 ρ1 S1) : SimS K ca z F1 ρ1 S1 env σ H1 := ⟨n.sim, s.stp.trans n.stp⟩
/-- an expression ahead of the rest of a statement -/
theorem ts1 {f : DE} {k : EV → Store → RS} {R : VK} (s : SimS K ca z F ρ S env σ H) (p : PostS K ca W z F D ((f env S).bindS env k))
    (hk : ∀ x S1 v F1 H1 ρ1, Now K ca z.H0 env σ F H ρ F1 H1 ρ1 S1 → SimS K ca z F1 ρ1 S1 env σ H1 → RepE K F1 ρ1 H env σ H1 v x → PostS K ca W z F1 D (k x S1) → R v H1) : dTE K ca W f σ H R := by
  refine ⟨z.H0, F, ρ, S, env, s.sim, ?_⟩
  cases q : f env S with
  | ok x S1 =>
    simp only [q, RE.bindS] at p
    exact fun v F1 H1 ρ1 n r => hk x S1 v F1 H1 ρ1 n (s.on n) r (p.mono n.stp.fz)
  | raise e S1 =>
    simp only [q, RE.bindS] at p
    exact fun cls d F1 H1 ρ1 n r => p cls d σ F1 H1 ρ1 n.stp.fz (s.on n) r
  | stuck =>
    simp only [q, RE.bindS] at p
    exact p
theorem ts1T {f : DE} {k : Bool → Store → RS} {R : Bool → Hp → Prop} (s : SimS K ca z F ρ S env σ H) (p : PostS K ca W z F D ((f env S).bindBS env k))
    (hk : ∀ b S1 F1 H1 ρ1, SimS K ca z F1 ρ1 S1 env σ H1 → PostS K ca W z F1 D (k b S1) → R b H1) : dTT K ca W f σ H R := by
  refine ⟨z.H0, F, ρ, S, env, s.sim, ?_⟩
  revert p
  cases q : f env S with
  | ok x S1 =>
    cases x with
    | d x =>
      cases x with
      | bool b => exact fun p F1 H1 ρ1 n => hk b S1 F1 H1 ρ1 (s.on n) (p.mono n.stp.fz)
      | _ => exact fun p => p
    | _ => exact fun p => p
  | raise e S1 => exact fun p cls d F1 H1 ρ1 n r => p cls d σ F1 H1 ρ1 n.stp.fz (s.on n) r
  | stuck => exact fun p => p
/-- the slot i holds a new value -/
theorem get_set {α : Type} {l : List α} {i j : Nat} {a b : α} (h : (l.set i a)[j]? = some b) : (j = i ∧ i < l.length ∧ a = b) ∨ (j ≠ i ∧ l[j]? = some b) := by
  by_cases e : j = i
  · subst e
    by_cases hl : j < l.length
    · rw [List.getElem?_set_self hl] at h
      exact .inl ⟨rfl, hl, Option.some.inj h⟩
    · rw [List.getElem?_eq_none_iff.mpr (by rw [List.length_set]; omega)] at h
      cases h
  · rw [List.getElem?_set_ne (Ne.symm e)] at h
    exact .inr ⟨e, h⟩
theorem Sim.setSlot {H0 : Hp} (s : Sim K ca H0 F ρ S env σ H) (i : Nat) (r : RepV K F ρ H0 H v ev) (ho : ev.isOwn = true → ∀ (j : Nat) (ej : EV), j ≠ i → env[j]? = some (some ej) → ej.isOwn = true → σ[j]? ≠ some (some v)) :
    Sim K ca H0 F ρ S (env.set i (some ev)) (σ.set i (some v)) H := by
  refine ⟨s.fz, s.len, s.nd, s.rfz, s.cell, by rw [List.length_set, List.length_set]; exact s.lenE, fun j ej e => ?_, fun j k ei ek a e1 e2 o1 o2 e3 e4 => ?_⟩
  · rcases get_set e with ⟨rfl, hl, e⟩ | ⟨hj, e⟩
    · cases e
      exact ⟨v, by rw [List.getElem?_set_self (by rw [← s.lenE]; exact hl)], r⟩
    · obtain ⟨w, e1, e2⟩ := s.slot j ej e
      exact ⟨w, by rw [List.getElem?_set_ne (Ne.symm hj)]; exact e1, e2⟩
  · rcases get_set e1 with ⟨rfl, hl, q1⟩ | ⟨hj, q1⟩
    · rcases get_set e2 with ⟨rfl, hl2, q2⟩ | ⟨hk, q2⟩
      · rfl
      · rcases get_set e3 with ⟨_, _, q3⟩ | ⟨hn, _⟩
        · rcases get_set e4 with ⟨hn, _, _⟩ | ⟨_, q4⟩
          · exact absurd hn hk
          · have z1 : ev = ei := Option.some.inj q1
            have z3 : v = .ref a := Option.some.inj q3
            subst z1 z3
            exact absurd q4 (ho o1 k ek hk q2 o2)
        · exact absurd rfl hn
    · rcases get_set e2 with ⟨rfl, hl2, q2⟩ | ⟨hk, q2⟩
      · rcases get_set e4 with ⟨_, _, q4⟩ | ⟨hn, _⟩
        · rcases get_set e3 with ⟨hn, _, _⟩ | ⟨_, q3⟩
          · exact absurd hn hj
          · have z2 : ev = ek := Option.some.inj q2
            have z4 : v = .ref a := Option.some.inj q4
            subst z2 z4
            exact absurd q3 (ho o2 j ei hj q1 o1)
        · exact absurd rfl hn
      · refine s.ownD j k ei ek a q1 q2 o1 o2 ?_ ?_
        · rcases get_set e3 with ⟨hn, _, _⟩ | ⟨_, q3⟩
          · exact absurd hn hj
          · exact q3
        · rcases get_set e4 with ⟨hn, _, _⟩ | ⟨_, q4⟩
          · exact absurd hn hk
          · exact q4
theorem SimS.setSlot (s : SimS K ca z F ρ S env σ H) (i : Nat) (r : RepV K F ρ z.H0 H v ev) (ho : ev.isOwn = true → ∀ (j : Nat) (ej : EV), j ≠ i → env[j]? = some (some ej) → ej.isOwn = true → σ[j]? ≠ some (some v)) :
    SimS K ca z F ρ S (env.set i (some ev)) (σ.set i (some v)) H := ⟨s.sim.setSlot i r ho, s.stp⟩
/-- a fresh own value is none of the slots' -/
theorem fresh_slot (s0 : Sim K ca z.H0 F ρ S env σ H) (r : RepV K F1 ρ1 H H1 v ev) (ho : ev.isOwn = true) : ∀ (j : Nat) (ej : EV), env[j]? = some (some ej) → ej.isOwn = true → σ[j]? ≠ some (some v) := fun j ej e1 o1 e2 => by
  cases ev with
  | own xs =>
    obtain ⟨a, vs, r1, r2, _⟩ := r
    subst r1
    exact (s0.own_at e1 o1 e2).2.2.2 r2
  | ownD xs =>
    obtain ⟨a, vs, r1, r2, _⟩ := r
    subst r1
    exact (s0.own_at e1 o1 e2).2.2.2 r2
  | _ => cases ho
theorem fixed_own {ev' : EV} (e : ev.fixed = some ev') : ev'.isOwn = false := by
  cases ev <;> cases e <;> rfl
theorem SimS.fixed (s : SimS K ca z F ρ S env σ H) (n : Now K ca z.H0 env σ F H ρ F1 H1 ρ1 S1) (r : RepE K F1 ρ1 H env σ H1 v ev) {ev' : EV} (e : ev.fixed = some ev') :
    ∃ F2, SimS K ca z F2 ρ1 S1 env σ H1 ∧ Same F1 F2 ∧ RepV K F2 ρ1 z.H0 H1 v ev' := by
  obtain ⟨F2, n2, sm, r2⟩ := n.fixed s.sim.old r e
  exact ⟨F2, s.on n2, sm, r2.base s.stp.mono⟩
end

/-! ### small statements -/
def seqS (g1 g2 : DS) : DS := fun env S => (g1 env S).bind g2
def nopS : DS := fun env S => .next env S
def EV.moved : EV → EV
  | .bor xs => .own xs
  | .borD ks => .ownD ks
  | x => x
def retS (f : DE) : DS := fun env S => (f env S).bindS env fun x S1 => .ret x.moved S1
def retN : DS := fun env S => .ret (.d .none) S
def exprS (f : DE) : DS := fun env S => (f env S).bindS env fun _ S1 => .next env S1
def ifS (t : DE) (a b : DS) : DS := fun env S => (t env S).bindBS env fun k S1 => if k = true then a env S1 else b env S1
/-- name = e; what is own is fixed -/
def asgF (i : Nat) (f : DE) : DS := fun env S => (f env S).bindS env fun x S1 => match x.fixed with
  | some ev => .next (env.set i (some ev)) S1
  | none => .stuck
/-- name = e; what is own stays so -/
def EV.kept : EV → Option EV
  | .bor _ => none
  | .borD _ => none
  | x => some x
def asgO (i : Nat) (f : DE) : DS := fun env S => (f env S).bindS env fun x S1 => match x.kept with
  | some ev => .next (env.set i (some ev)) S1
  | none => .stuck
/-- the own list of a slot is fixed from here on (nothing happens) -/
def Env.frz (env : Env) (i : Nat) : Env := match env[i]? with
  | some (some (.own xs)) => env.set i (some (.d (.list xs)))
  | some (some (.ownD ks)) => env.set i (some (.d (.dict ks)))
  | _ => env
def frzS (i : Nat) (g : DS) : DS := fun env S => g (env.frz i) S
section
variable {X : Cx} {ca : Str → Addr} {W : WX} {st : Stmt} {sts : List Stmt} {g1 g2 : DS} {e : Expr} {f ft : DE} {pos : Pos}
theorem js_nil : JSs X ca W [] nopS := fun z => imp_ss pss_nil fun D σ H ⟨F, ρ, S, env, s, p⟩ => p σ F H ρ (Same.refl _) s
theorem js_cons (h1 : JS X ca W st g1) (h2 : JSs X ca W sts g2) : JSs X ca W (st :: sts) (seqS g1 g2) := fun z => imp_ss (pss_cons (h1 z) (h2 z)) fun D σ H ⟨F, ρ, S, env, s, p⟩ => by
  refine ⟨F, ρ, S, env, s, ?_⟩
  unfold seqS at p
  cases q : g1 env S with
  | next env' S' =>
    simp only [q, RS.bind] at p
    exact fun σ' F' H' ρ' f s' => ⟨F', ρ', S', env', s', p.mono f⟩
  | brk env' S' => simp only [q, RS.bind] at p; exact p
  | cont env' S' => simp only [q, RS.bind] at p; exact p
  | ret r S' => simp only [q, RS.bind] at p; exact p
  | raise ex env' S' => simp only [q, RS.bind] at p; exact p
  | stuck => simp only [q, RS.bind] at p; exact p
theorem js_one (h1 : JS X ca W st g1) : JSs X ca W [st] g1 := fun z => pss_one (h1 z)
theorem js_pass : JS X ca W (.Pass pos) nopS := fun z => imp_s ps_pass fun D σ H ⟨F, ρ, S, env, s, p⟩ => p σ F H ρ (Same.refl _) s
theorem js_break : JS X ca W (.Break pos) (fun env S => .brk env S) := fun z => imp_s ps_break fun D σ H ⟨F, ρ, S, env, s, p⟩ => p σ F H ρ (Same.refl _) s
theorem js_cont : JS X ca W (.Continue pos) (fun env S => .cont env S) := fun z => imp_s ps_continue fun D σ H ⟨F, ρ, S, env, s, p⟩ => p σ F H ρ (Same.refl _) s
theorem js_expr (h : JE X ca W e f) (hs : swapsWith e none pos.line X.env = pure false := by rfl) : JS X ca W (.Expr e pos) (exprS f) := fun z => imp_s (ps_expr h hs) fun D σ H ⟨F, ρ, S, env, s, p⟩ =>
  ts1 (D := D) s p fun x S1 v F1 H1 ρ1 n s1 r p1 => p1 σ F1 H1 ρ1 (Same.refl _) s1
theorem sim_drop {K : PySem.W.Frag} {H0 F H : Hp} {ρ : List Addr} {S : Store} {env : Env} {σ : L2.St} (s : Sim K ca H0 F ρ S env σ H) : Sim K ca H0 F ρ S [] [] H :=
  ⟨s.fz, s.len, s.nd, s.rfz, s.cell, rfl, fun i ev e => by simp at e, fun i j ei ej a e => by simp at e⟩
theorem ret_rep {K : PySem.W.Frag} {z : Ses} {F H F1 H1 : Hp} {ρ ρ1 : List Addr} {S1 : Store} {env : Env} {σ : L2.St} {v : V} {D : Ends} {x : EV} (s0 : Stp z.F0 z.H0 z.r0 F H ρ) (s : SimS K ca z F1 ρ1 S1 env σ H1) (r : RepE K F1 ρ1 H env σ H1 v x)
    (p : PostS K ca W z F1 D (.ret x.moved S1)) : D.rt v H1 := by
  have go : ∀ x, RepV K F1 ρ1 z.H0 H1 v x → PostS K ca W z F1 D (.ret x S1) → D.rt v H1 := fun x r p => p v F1 H1 ρ1 s.stp (sim_drop s.sim) r
  cases x with
  | bor xs =>
    obtain ⟨i, a, e1, e2, e3⟩ := r
    obtain ⟨w, e4, e5⟩ := s.sim.slot i _ e1
    rw [e2] at e4
    cases e4
    subst e3
    exact go _ e5 p
  | borD xs =>
    obtain ⟨i, a, e1, e2, e3⟩ := r
    obtain ⟨w, e4, e5⟩ := s.sim.slot i _ e1
    rw [e2] at e4
    cases e4
    subst e3
    exact go _ e5 p
  | d x => exact go (.d x) r p
  | own x => exact go (.own x) (RepV.base (ev := .own x) s0.mono r) p
  | ownD x => exact go (.ownD x) (RepV.base (ev := .ownD x) s0.mono r) p
  | ref x => exact go (.ref x) r p
  | scr x => exact go (.scr x) r p
  | opq x => exact go (.opq x) r p
  | fn x => exact go (.fn x) r p
  | tag x => exact go (.tag x) r p
theorem js_ret (h : JE X ca W e f) : JS X ca W (.Return (some e) pos) (retS f) := fun z => imp_s (ps_ret h) fun D σ H ⟨F, ρ, S, env, s, p⟩ =>
  ts1 (D := D) s p fun x S1 v F1 H1 ρ1 n s1 r p1 => ret_rep s.stp s1 r p1
theorem js_retN : JS X ca W (.Return none pos) retN := fun z => imp_s ps_retN fun D σ H ⟨F, ρ, S, env, s, p⟩ => p .non F H ρ s.stp (sim_drop s.sim) .non
theorem js_if {c : Expr} {a b : List Stmt} (hc : JT X ca W c ft) (ha : JSs X ca W a g1) (hb : JSs X ca W b g2) : JS X ca W (.If c a b pos) (ifS ft g1 g2) := fun z => imp_s (ps_if hc (ha z) (hb z)) fun D σ H ⟨F, ρ, S, env, s, p⟩ =>
  ts1T (D := D) s p fun b S1 F1 H1 ρ1 s1 p1 => by
    cases b with
    | true => exact iteT ⟨F1, ρ1, S1, env, s1, p1⟩
    | false => exact iteF ⟨F1, ρ1, S1, env, s1, p1⟩
theorem ts_asgF {K : PySem.W.Frag} {z : Ses} {i : Nat} {D : Ends} {σ : L2.St} {H : Hp} (h : dTS K ca W z (asgF i f) D σ H) : tAsg (dTE K ca W f) (gName i) D σ H := by
  obtain ⟨F, ρ, S, env, s, p⟩ := h
  refine ts1 (D := D) s p fun x S1 v F1 H1 ρ1 n s1 r p1 => ?_
  cases q : x.fixed with
  | none => simp only [q] at p1; exact p1.elim
  | some ev =>
    simp only [q] at p1
    obtain ⟨F2, s2, sm, r2⟩ := s.fixed n r q
    exact p1 _ F2 H1 ρ1 sm (s2.setSlot i r2 fun o => by rw [fixed_own q] at o; cases o)
theorem ts_asgO {K : PySem.W.Frag} {z : Ses} {i : Nat} {D : Ends} {σ : L2.St} {H : Hp} (h : dTS K ca W z (asgO i f) D σ H) : tAsg (dTE K ca W f) (gName i) D σ H := by
  obtain ⟨F, ρ, S, env, s, p⟩ := h
  refine ts1 (D := D) s p fun x S1 v F1 H1 ρ1 n s1 r p1 => ?_
  cases q : x.kept with
  | none => simp only [q] at p1; exact p1.elim
  | some ev =>
    simp only [q] at p1
    have r1 : RepV K F1 ρ1 H H1 v ev := by
      cases x <;> cases q <;> exact r
    exact p1 _ F1 H1 ρ1 (Same.refl _) (s1.setSlot i (r1.base s.stp.mono) fun o j ej _ e1 o1 => fresh_slot s.sim r1 o j ej e1 o1)
theorem js_set {i : Nat} {x : Str} {pos' : Pos} (hN : X.N.Nodup) (hi : X.N[i]? = some x) (hx : Loc X.env.scope x) (h : JE X ca W e f) (hs : swapsWith e (some (.Name x pos')) pos.line X.env = pure false := by rfl) (hf : X.fn x = true ∨ X.env.scope.names.lookup x = some .local := by first | exact .inl rfl | exact .inr rfl | assumption) :
    JS X ca W (.Assign [.Name x pos'] e pos) (asgF i f) := fun z => imp_s (ps_set hN hi hx h hs hf) fun D σ H h => ts_asgF h
theorem js_setO {i : Nat} {x : Str} {pos' : Pos} (hN : X.N.Nodup) (hi : X.N[i]? = some x) (hx : Loc X.env.scope x) (h : JE X ca W e f) (hs : swapsWith e (some (.Name x pos')) pos.line X.env = pure false := by rfl) (hf : X.fn x = true ∨ X.env.scope.names.lookup x = some .local := by first | exact .inl rfl | exact .inr rfl | assumption) :
    JS X ca W (.Assign [.Name x pos'] e pos) (asgO i f) := fun z => imp_s (ps_set hN hi hx h hs hf) fun D σ H h => ts_asgO h
theorem sim_frz {K : PySem.W.Frag} {z : Ses} {F H : Hp} {ρ : List Addr} {S : Store} {env : Env} {σ : L2.St} (s : SimS K ca z F ρ S env σ H) (i : Nat) : ∃ F', Same F F' ∧ SimS K ca z F' ρ S (env.frz i) σ H := by
  unfold Env.frz
  have go : ∀ (ev ev' : EV) (a : Addr) (o : HO), env[i]? = some (some ev) → ev.isOwn = true → ev'.isOwn = false → σ[i]? = some (some (.ref a)) → H a = some o → F a = none → a ∉ ρ → z.H0 a = none → (∀ F', Same F F' → F' a = some o → RepV K F' ρ z.H0 H (.ref a) ev') →
      ∃ F', Same F F' ∧ SimS K ca z F' ρ S (env.set i (some ev')) σ H := fun ev ev' a o e1 o1 o2 e2 e3 e4 e5 e6 hr => by
    have f := same_fix (o := o) e4
    refine ⟨upd F a o, f, ?_, s.stp.fix e6 e4⟩
    have s1 : Sim K ca z.H0 F ρ S (env.set i none) σ H := by
      refine ⟨s.sim.fz, s.sim.len, s.sim.nd, s.sim.rfz, s.sim.cell, by rw [List.length_set]; exact s.sim.lenE, fun j ej e => ?_, fun j k ej ek b q1 q2 => ?_⟩
      · rcases get_set e with ⟨_, _, e⟩ | ⟨hj, e⟩
        · cases e
        · exact s.sim.slot j ej e
      · rcases get_set q1 with ⟨_, _, q1⟩ | ⟨hj, q1⟩
        · cases q1
        · rcases get_set q2 with ⟨_, _, q2⟩ | ⟨hk, q2⟩
          · cases q2
          · exact s.sim.ownD j k ej ek b q1 q2
    have s2 := s1.fix e3 e4 e5 fun j ej q1 o3 q2 => by
      rcases get_set q1 with ⟨_, _, q1⟩ | ⟨hj, q1⟩
      · cases q1
      · exact hj (s.sim.ownD j i ej ev a q1 e1 o3 o1 q2 e2)
    have hl : i < σ.length := (List.getElem?_eq_some_iff.mp e2).1
    have s3 := s2.setSlot i (hr _ f upd_same) fun o => by rw [o2] at o; cases o
    rw [List.set_set] at s3
    have : σ.set i (some (.ref a)) = σ := by
      apply List.ext_getElem?
      intro j
      by_cases hj : j = i
      · subst hj
        rw [List.getElem?_set_self hl, e2]
      · rw [List.getElem?_set_ne (Ne.symm hj)]
    rw [this] at s3
    exact s3
  cases q : env[i]? with
  | none => exact ⟨F, Same.refl _, s⟩
  | some o =>
    cases o with
    | none => exact ⟨F, Same.refl _, s⟩
    | some ev =>
      cases ev with
      | own xs =>
        obtain ⟨w, e1, a, vs, r1, r2, r3, r4, r5, r6⟩ := s.sim.slot i _ q
        subst r1
        exact go _ _ a _ q rfl rfl e1 r3 r4 r5 r2 fun F' f e => show Dr K F' _ _ from .lst e (r6.mono f)
      | ownD xs =>
        obtain ⟨w, e1, a, vs, r1, r2, r3, r4, r5, r6⟩ := s.sim.slot i _ q
        subst r1
        exact go _ _ a _ q rfl rfl e1 r3 r4 r5 r2 fun F' f e => show Dr K F' _ _ from .dct e (r6.mono f)
      | _ => exact ⟨F, Same.refl _, s⟩
theorem js_frz (i : Nat) (h : JS X ca W st g1) : JS X ca W st (frzS i g1) := fun z => imp_s (h z) fun D σ H ⟨F, ρ, S, env, s, p⟩ => by
  obtain ⟨F', f, s'⟩ := sim_frz s i
  exact ⟨F', ρ, S, env.frz i, s', p.mono f⟩
/-- code that is never reached -/
theorem js_never : JS X ca W st (fun _ _ => .stuck) := fun z => imp_s ps_never fun D σ H ⟨F, ρ, S, env, s, p⟩ => p.elim
end
end DL

set_option Elab.async false
set_option linter.all false
set_option maxRecDepth 100000
set_option maxHeartbeats 4000000
/-! DL8: what is walked, loops. -/
namespace DL
open PySem PySem.Spec PyProof.Rows L2

/-- an iterator that yields these data, one a turn -/
structure DItems (K : PySem.W.Frag) (J : It) (F : Hp) (items : List PyData) : Prop where
  stop : ∀ F' H' i, Same F F' → Same F' H' → items.length ≤ i → J.stop i H'
  go : ∀ F' H' i, Same F F' → Same F' H' → i < items.length → J.go i H'
  yld : ∀ F' H' i x H'' d, Same F F' → Same F' H' → items[i]? = some d → J.yld i H' x H'' → (H'' = H' ∧ Dr K F' x d) ∨ ∃ T vs ds, H' T = none ∧ H'' = upd H' T (.tup vs) ∧ x = .ref T ∧ d = .tuple ds ∧ DrAll K F' vs ds
section
variable (K : PySem.W.Frag) (ca : Str → Addr) (W : WX)
def PostI (H0 : Hp) (env : Env) (σ : L2.St) (F H : Hp) (ρ : List Addr) (R : It → Hp → Prop) : RE → Prop
  | .ok (.d (.list items)) S' => ∀ F' H' ρ' J, Now K ca H0 env σ F H ρ F' H' ρ' S' → DItems K J F' items → R J H'
  | .raise ex S' => ∀ cls d F' H' ρ', Now K ca H0 env σ F H ρ F' H' ρ' S' → ExcRep K ca F' H' cls d ex → W cls d σ H'
  | _ => False
def dTI (f : DE) : TI := fun σ H R => ∃ H0 F ρ S env, Sim K ca H0 F ρ S env σ H ∧ PostI K ca W H0 env σ F H ρ R (f env S)
end
abbrev JI (X : Cx) (ca : Str → Addr) (W : WX) (tg e : Expr) (f : DE) : Prop := PI X tg e (dTI X.K ca W f)
theorem imp_i {X : Cx} {tg e : Expr} {t t' : TI} (h : PI X tg e t) (i : ∀ σ H R, t' σ H R → t σ H R) : PI X tg e t' := ⟨fun pins s σ H R I q => h.run pins s σ H R I (i σ H R q)⟩

/-! ### a list, a tuple, a text -/
def iAny (K : PySem.W.Frag) (tl : TE) : TI := fun σ H R => tl σ H fun x H1 =>
  (∃ a, x = .ref a ∧ (∃ xs, SqL K H1 a xs) ∧ R (Itl K a) H1) ∨ (∃ a, x = .ref a ∧ (∃ xs, SqT K H1 a xs) ∧ R (Itt K a) H1) ∨ ∃ z, x = .str z ∧ R (Its z) H1
theorem pi_any {X : Cx} {tg l : Expr} {tl : TE} (hl : PE X l tl) : PI X tg l (iAny X.K tl) := by
  refine ⟨fun pins s σ H R I h => ?_⟩
  refine thn (hl.run pins s σ H _ I h) fun v s1 ⟨x, H1, I1, r1, q1⟩ => ?_
  rcases q1 with ⟨a, e, ⟨xs, hq⟩, q⟩ | ⟨a, e, ⟨xs, hq⟩, q⟩ | ⟨z, e, q⟩
  · subst e
    cases r1
    obtain ⟨its, rv, p, hz⟩ := I1.list hq
    exact wpAny_pyIter_list p.isList (pi_one (tk := s1.toks) I1 _ (turn_list a _) ⟨_, Heap.get?_push_size _ rfl, rfl, rfl⟩ q)
  · subst e
    cases r1
    obtain ⟨its, rv, p, hz⟩ := I1.tuple hq
    exact wpAny_pyIter_tuple (show s1.heap.IsTuple a its.toArray from p) (pi_one (tk := s1.toks) I1 _ (turn_tuple a _) ⟨_, Heap.get?_push_size _ rfl, rfl, rfl⟩ q)
  · subst e
    obtain ⟨t, rfl⟩ := r1
    cases ha : z.cps.all (· < 128)
    · exact wpAny_pyIter_wide ha (pi_one (tk := s1.toks) I1 _ (turn_str _ z t "str_iterator" (.inr rfl)) ⟨_, Heap.get?_push_size _ rfl, rfl, rfl⟩ q)
    · exact wpAny_pyIter_ascii ha (pi_one (tk := s1.toks) I1 _ (turn_str _ z t "str_ascii_iterator" (.inl rfl)) ⟨_, Heap.get?_push_size _ rfl, rfl, rfl⟩ q)
def itemsG : PyData → Option (List PyData)
  | .list xs => some xs
  | .tuple xs => some xs
  | .str z => some (z.cps.toList.map fun c => .str ⟨#[c]⟩)
  | _ => none
def itE (f : DE) : DE := fun env S => (f env S).bind fun x S1 => match x.fixed with
  | some (.d y) => match itemsG y with
    | some xs => .ok (.d (.list xs)) S1
    | none => .stuck
  | _ => .stuck
section
variable {K : PySem.W.Frag} {ca : Str → Addr} {W : WX} {H0 F H F' H' F1 H1 F2 H2 B : Hp} {ρ ρ' ρ1 ρ2 : List Addr} {S S' S1 S2 : Store} {env : Env} {σ : L2.St} {v : V} {ev : EV} {Q : VK} {f : DE}
/-- the first part of an iterable -/
theorem ti1 {k : Env → EV → Store → RE} {R : VK} {RI : It → Hp → Prop} (h : dTI K ca W (fun env S => (f env S).bind (k env)) σ H RI)
    (hk : ∀ H0 F ρ S env, Sim K ca H0 F ρ S env σ H → ∀ x S1 v F1 H1 ρ1, Now K ca H0 env σ F H ρ F1 H1 ρ1 S1 → RepE K F1 ρ1 H env σ H1 v x → PostI K ca W H0 env σ F H ρ RI (k env x S1) → R v H1) : dTE K ca W f σ H R := by
  obtain ⟨H0, F, ρ, S, env, s, p⟩ := h
  refine ⟨H0, F, ρ, S, env, s, ?_⟩
  have p' : PostI K ca W H0 env σ F H ρ RI ((f env S).bind (k env)) := p
  clear p
  revert p'
  cases q : f env S with
  | ok x S1 => exact fun p v F1 H1 ρ1 n r => hk H0 F ρ S env s x S1 v F1 H1 ρ1 n r p
  | raise e S1 => exact fun p => p
  | stuck => exact fun p => p
theorem ditems_l {a : Addr} {vs : List V} {xs : List PyData} (h : F a = some (.lst vs)) (r : DrAll K F vs xs) : DItems K (Itl K a) F xs where
  stop := fun F' H' i f g hi => ⟨vs, SqL.of (g _ _ (f _ _ h)), by rw [r.length]; exact hi⟩
  go := fun F' H' i f g hi => by
    have hv : i < vs.length := by rw [r.length]; exact hi
    exact ⟨vs, vs[i], SqL.of (g _ _ (f _ _ h)), List.getElem?_eq_getElem hv⟩
  yld := fun F' H' i x H'' d f g hd y => by
    obtain ⟨e, y⟩ := y
    subst e
    obtain ⟨w, e1, e2⟩ := r.get hd
    have := y vs (SqL.of (g _ _ (f _ _ h)))
    rw [e1] at this
    cases this
    exact .inl ⟨rfl, e2.mono f⟩
theorem ditems_t {a : Addr} {vs : List V} {xs : List PyData} (h : SqT K F a vs) (r : DrAll K F vs xs) : DItems K (Itt K a) F xs where
  stop := fun F' H' i f g hi => ⟨vs, same_t g (same_t f h), by rw [r.length]; exact hi⟩
  go := fun F' H' i f g hi => by
    have hv : i < vs.length := by rw [r.length]; exact hi
    exact ⟨vs, vs[i], same_t g (same_t f h), List.getElem?_eq_getElem hv⟩
  yld := fun F' H' i x H'' d f g hd y => by
    obtain ⟨e, y⟩ := y
    subst e
    obtain ⟨w, e1, e2⟩ := r.get hd
    have := y vs (same_t g (same_t f h))
    rw [e1] at this
    cases this
    exact .inl ⟨rfl, e2.mono f⟩
theorem ditems_s {w : Str} : DItems K (Its w) F (w.cps.toList.map fun c => .str ⟨#[c]⟩) where
  stop := fun F' H' i f g hi => by
    have e : w.cps.size ≤ i := by simpa using hi
    exact e
  go := fun F' H' i f g hi => by
    have e : i < w.cps.size := by simpa using hi
    exact e
  yld := fun F' H' i x H'' d f g hd y => by
    obtain ⟨e, c, e1, e2⟩ := y
    subst e e2
    rw [List.getElem?_map] at hd
    have e3 : w.cps.toList[i]? = some c := by simpa using e1
    rw [e3] at hd
    cases hd
    exact .inl ⟨rfl, .str _⟩
theorem ti_it {RI : It → Hp → Prop} (h : dTI K ca W (itE f) σ H RI) : iAny K (dTE K ca W f) σ H RI :=
  ti1 (k := fun env x S1 => match x.fixed with
    | some (.d y) => match itemsG y with
      | some xs => .ok (.d (.list xs)) S1
      | none => .stuck
    | _ => .stuck) h fun H0 F ρ S env s x S1 v F1 H1 ρ1 n r p => by
    cases q : x.fixed with
    | none => simp only [q] at p; exact p.elim
    | some x' =>
      obtain ⟨F2, n2, sm, r2⟩ := n.fixed s.old r q
      cases x' with
      | d y =>
        simp only [q] at p
        cases q2 : itemsG y with
        | none => simp only [q2] at p; exact p.elim
        | some xs =>
          simp only [q2] at p
          cases y with
          | list ys =>
            cases q2
            cases r2 with
            | lst h2 d2 => exact .inl ⟨_, rfl, ⟨_, SqL.of (n2.sim.fz _ _ h2)⟩, p _ _ _ _ n2 (ditems_l h2 d2)⟩
          | tuple ys =>
            cases q2
            cases r2 with
            | tup h2 d2 => exact .inr (.inl ⟨_, rfl, ⟨_, same_t n2.sim.fz h2⟩, p _ _ _ _ n2 (ditems_t h2 d2)⟩)
          | str w =>
            cases q2
            cases r2
            exact .inr (.inr ⟨w, rfl, p _ _ _ _ n2 ditems_s⟩)
          | _ => cases q2
      | _ => simp only [q] at p; exact p.elim
end
/-! ### range -/
def rngL (lo : Int) (n : Nat) : List PyData := (List.range n).map fun i => PyData.int (lo + (i : Nat))
noncomputable def rngK (x : EV) (S1 : Store) : RE := match x with
  | .d (.int n) => @ite _ (-(2 ^ 62) ≤ n ∧ n < 2 ^ 62) (Classical.propDecidable _) (.ok (.d (.list (rngL 0 n.toNat))) S1) .stuck
  | _ => .stuck
noncomputable def rng1 (f : DE) : DE := fun env S => (f env S).bind rngK
noncomputable def rng2K (x y : EV) (S2 : Store) : RE := match x, y with
  | .d (.int lo), .d (.int hi) => @ite _ (-(2 ^ 62) ≤ lo ∧ lo < 2 ^ 62 ∧ -(2 ^ 62) ≤ hi ∧ hi < 2 ^ 62) (Classical.propDecidable _) (.ok (.d (.list (rngL lo (hi - lo).toNat))) S2) .stuck
  | _, _ => .stuck
noncomputable def rng2 (f g : DE) : DE := fun env S => (f env S).bind fun x S1 => (g env S1).bind (rng2K x)
section
variable {K : PySem.W.Frag} {ca : Str → Addr} {W : WX} {H0 F H F' H' F1 H1 F2 H2 B : Hp} {ρ ρ' ρ1 ρ2 : List Addr} {S S' S1 S2 : Store} {env : Env} {σ : L2.St} {v : V} {ev : EV} {Q : VK} {f g : DE}
theorem ditems_r {lo : Int} {n : Nat} : DItems K (Itr lo n) F (rngL lo n) where
  stop := fun F' H' i f g hi => by
    have e : n ≤ i := by simpa [rngL] using hi
    exact e
  go := fun F' H' i f g hi => by
    have e : i < n := by simpa [rngL] using hi
    exact e
  yld := fun F' H' i x H'' d f g hd y => by
    obtain ⟨e, e2⟩ := y
    subst e e2
    unfold rngL at hd
    rw [List.getElem?_map] at hd
    have hl : i < n := by
      by_cases h : i < n
      · exact h
      · rw [List.getElem?_eq_none_iff.mpr (by rw [List.length_range]; omega)] at hd
        cases hd
    rw [List.getElem?_range hl] at hd
    cases hd
    exact .inl ⟨rfl, .int _⟩
theorem ti_rng1 {RI : It → Hp → Prop} (h : dTI K ca W (rng1 f) σ H RI) : iRng1 (tCons (dTE K ca W f) tNil) σ H RI :=
  ti1 (k := fun _ => rngK) h fun H0 F ρ S env s x S1 v F1 H1 ρ1 n r p => by
    have go : ∀ m, x = .d (.int m) → PostI K ca W H0 env σ F H ρ RI (@ite _ (-(2 ^ 62) ≤ m ∧ m < 2 ^ 62) (Classical.propDecidable _) (.ok (.d (.list (rngL 0 m.toNat))) S1) .stuck) → ∃ j : Int, [v] = [.int j] ∧ -(2 ^ 62) ≤ j ∧ j < 2 ^ 62 ∧ RI (Itr 0 j.toNat) H1 := fun m e pp => by
      subst e
      cases r
      by_cases hm : -(2 ^ 62) ≤ m ∧ m < 2 ^ 62
      · rw [if_pos hm] at pp
        exact ⟨m, rfl, hm.1, hm.2, pp _ _ _ _ n ditems_r⟩
      · rw [if_neg hm] at pp
        exact pp.elim
    cases x with
    | d y =>
      cases y with
      | int m => exact go m rfl p
      | _ => exact p.elim
    | _ => exact p.elim
theorem ti2 {k : EV → Store → RE} {R : VK} {RI : It → Hp → Prop} (n : Now K ca H0 env σ F H ρ F1 H1 ρ1 S1) (p : PostI K ca W H0 env σ F H ρ RI ((g env S1).bind k))
    (hk : ∀ y S2 v F2 H2 ρ2, Now K ca H0 env σ F H ρ F2 H2 ρ2 S2 → Stp F1 H1 ρ1 F2 H2 ρ2 → RepE K F2 ρ2 H1 env σ H2 v y → PostI K ca W H0 env σ F H ρ RI (k y S2) → R v H2) : dTE K ca W g σ H1 R := by
  refine ⟨H0, F1, ρ1, S1, env, n.sim, ?_⟩
  revert p
  cases q : g env S1 with
  | ok x S2 => exact fun p v F2 H2 ρ2 n2 r => hk x S2 v F2 H2 ρ2 ⟨n.stp.trans n2.stp, n2.sim⟩ n2.stp r p
  | raise e S1 => exact fun p cls d F2 H2 ρ2 n2 r => p cls d F2 H2 ρ2 ⟨n.stp.trans n2.stp, n2.sim⟩ r
  | stuck => exact fun p => p
theorem ti_rng2 {RI : It → Hp → Prop} (h : dTI K ca W (rng2 f g) σ H RI) : iRng2 (tCons (dTE K ca W f) (tCons (dTE K ca W g) tNil)) σ H RI :=
  ti1 (k := fun env x S1 => (g env S1).bind (rng2K x)) h fun H0 F ρ S env s x S1 v F1 H1 ρ1 n r p => ti2 n p fun y S2 v2 F2 H2 ρ2 n2 st r2 p2 => by
    have r1 := r.step st
    have go : ∀ lo hi, x = .d (.int lo) → y = .d (.int hi) → PostI K ca W H0 env σ F H ρ RI (@ite _ (-(2 ^ 62) ≤ lo ∧ lo < 2 ^ 62 ∧ -(2 ^ 62) ≤ hi ∧ hi < 2 ^ 62) (Classical.propDecidable _) (.ok (.d (.list (rngL lo (hi - lo).toNat))) S2) .stuck) →
        ∃ i j : Int, [v, v2] = [.int i, .int j] ∧ (-(2 ^ 62) ≤ i ∧ i < 2 ^ 62 ∧ -(2 ^ 62) ≤ j ∧ j < 2 ^ 62) ∧ RI (Itr i (j - i).toNat) H2 := fun lo hi e e' pp => by
      subst e e'
      cases r1
      cases r2
      by_cases hm : -(2 ^ 62) ≤ lo ∧ lo < 2 ^ 62 ∧ -(2 ^ 62) ≤ hi ∧ hi < 2 ^ 62
      · rw [if_pos hm] at pp
        exact ⟨lo, hi, rfl, hm, pp _ _ _ _ n2 ditems_r⟩
      · rw [if_neg hm] at pp
        exact pp.elim
    cases x with
    | d a =>
      cases a with
      | int lo =>
        cases y with
        | d b =>
          cases b with
          | int hi => exact go lo hi rfl rfl p2
          | _ => exact p2.elim
        | _ => exact p2.elim
      | _ => exact p2.elim
    | _ => exact p2.elim
end
section
variable {X : Cx} {ca : Str → Addr} {W : WX} {tg a b e : Expr} {f g : DE} {p pos : Pos}
theorem ji_it (h : JE X ca W e f) : JI X ca W tg e (itE f) := imp_i (pi_any h) fun σ H R h => ti_it h
theorem ji_rng1 (hg : Gl X "range") (hm : X.mg "range" = none) (h : JE X ca W a f) (hs : starEach [a] X.env = [(false, eval a X.env)] := by rfl) : JI X ca W tg (.Call (.Name "range" p) [a] [] pos) (rng1 f) :=
  imp_i (pi_range1 hg hm (pa_cons h pa_nil hs) hs) fun σ H R h => ti_rng1 h
theorem ji_rng2 (hg : Gl X "range") (hm : X.mg "range" = none) (h : JE X ca W a f) (h2 : JE X ca W b g) (hs : starEach [a, b] X.env = [(false, eval a X.env), (false, eval b X.env)] := by rfl) (hs2 : starEach [b] X.env = [(false, eval b X.env)] := by rfl) : JI X ca W tg (.Call (.Name "range" p) [a, b] [] pos) (rng2 f g) :=
  imp_i (pi_range2 hg hm (pa_cons h (pa_cons h2 pa_nil hs2) (by rw [hs, hs2])) hs hs2) fun σ H R h => ti_rng2 h
end

/-! ### targets -/
/-- what a target does with a datum: the slots that change -/
abbrev DG := EV → Env → Option Env
def tgN (i : Nat) : DG := fun x env => some (env.set i (some x))
def setAll : List Nat → List PyData → Env → Option Env
  | [], [], env => some env
  | i :: is, d :: ds, env => setAll is ds (env.set i (some (.d d)))
  | _, _, _ => none
/-- (a, b, ..): a tuple, or a list -/
def tgT (is : List Nat) : DG := fun x env => match x with
  | .d (.tuple ds) => setAll is ds env
  | _ => none
def tgL (is : List Nat) : DG := fun x env => match x with
  | .d (.list ds) => setAll is ds env
  | _ => none
def gD (K : PySem.W.Frag) (ca : Str → Addr) (t : DG) (is : List Nat) : TG := fun v σ H Q => ∃ H0 F ρ S env x env', Sim K ca H0 F ρ S env σ H ∧ RepV K F ρ H0 H v x ∧ x.isOwn = false ∧ t x env = some env' ∧
  ∀ σ', Sim K ca H0 F ρ S env' σ' H → wipe σ' is = wipe σ is → Q σ' H
abbrev JG (X : Cx) (ca : Str → Addr) (tg : Expr) (t : DG) (is : List Nat) : Prop := PG X tg (gD X.K ca t is)
theorem wipe_in {σ : L2.St} : ∀ {vs : List Nat} {j : Nat}, j ∈ vs → j < σ.length → (wipe σ vs)[j]? = some none
  | v :: vs, j, h, hl => by
    unfold wipe
    by_cases e : v = j
    · subst e
      rw [List.getElem?_set_self (by rw [wipe_length]; exact hl)]
    · rw [List.getElem?_set_ne e]
      rcases List.mem_cons.mp h with z | z
      · exact absurd z.symm e
      · exact wipe_in z hl
theorem wipe_ni {σ : L2.St} {i : Nat} : ∀ {vs : List Nat}, i ∉ vs → (wipe σ vs)[i]? = σ[i]?
  | [], _ => rfl
  | v :: vs, h => by
    have h1 : v ≠ i := fun e => h (by rw [e]; exact List.mem_cons_self)
    have h2 : i ∉ vs := fun m => h (List.mem_cons_of_mem _ m)
    unfold wipe
    rw [List.getElem?_set_ne h1]
    exact wipe_ni h2
theorem wipe_ext {σ σ' : L2.St} {vs : List Nat} (hl : σ'.length = σ.length) (h : ∀ j, j ∉ vs → σ'[j]? = σ[j]?) : wipe σ' vs = wipe σ vs := by
  apply List.ext_getElem?
  intro j
  by_cases hj : j ∈ vs
  · by_cases hb : j < σ.length
    · rw [wipe_in hj (by rw [hl]; exact hb), wipe_in hj hb]
    · rw [List.getElem?_eq_none_iff.mpr (by rw [wipe_length, hl]; omega), List.getElem?_eq_none_iff.mpr (by rw [wipe_length]; omega)]
  · rw [wipe_ni hj, wipe_ni hj, h j hj]
theorem wipe_set {σ : L2.St} {vs : List Nat} {i : Nat} {o : Option V} (h : i ∈ vs) : wipe (σ.set i o) vs = wipe σ vs := wipe_ext (by rw [List.length_set]) fun j hj => by
  rw [List.getElem?_set_ne (fun e => hj (by rw [← e]; exact h))]
theorem wipe_wipe {σ : L2.St} {vs : List Nat} : wipe (wipe σ vs) vs = wipe σ vs := wipe_ext (by rw [wipe_length]) fun j hj => wipe_ni hj
theorem imp_g {X : Cx} {tg : Expr} {t t' : TG} (h : PG X tg t) (i : ∀ v σ H Q, t' v σ H Q → t v σ H Q) : PG X tg t' := ⟨fun pins s σ H v u Q I r q => h.run pins s σ H v u Q I r (i v σ H Q q)⟩
theorem jg_name {X : Cx} {ca : Str → Addr} {i : Nat} {x : Str} {pos : Pos} (hN : X.N.Nodup) (hi : X.N[i]? = some x) (hx : Loc X.env.scope x) (hf : X.fn x = true ∨ X.env.scope.names.lookup x = some .local := by first | exact .inl rfl | exact .inr rfl | assumption) : JG X ca (.Name x pos) (tgN i) [i] :=
  imp_g (pg_name hN hi hx hf) fun v σ H Q ⟨H0, F, ρ, S, env, x, env', s, r, ho, e, q⟩ => by
    cases e
    exact q _ (s.setSlot i r fun o => by rw [ho] at o; cases o) (wipe_set (by simp))
/-- names one after another -/
def gNames : List Nat → TGs
  | [] => gNil
  | i :: is => gCons (gName i) (gNames is)
theorem names_go {K : PySem.W.Frag} {ca : Str → Addr} {H0 F H : Hp} {ρ : List Addr} {S : Store} {all : List Nat} : ∀ (is : List Nat) (vs : List V) (ds : List PyData) (env env' : Env) (σ : L2.St) (Q : L2.St → Hp → Prop), (∀ i, i ∈ is → i ∈ all) → Sim K ca H0 F ρ S env σ H → DrAll K F vs ds → setAll is ds env = some env' →
    (∀ σ', Sim K ca H0 F ρ S env' σ' H → wipe σ' all = wipe σ all → Q σ' H) → gNames is vs σ H Q
  | [], _, _, env, env', σ, Q, _, s, .nil, e, q => by
    cases e
    exact ⟨rfl, q _ s rfl⟩
  | [], _, _, env, env', σ, Q, _, s, .cons _ _, e, q => by cases e
  | i :: is, _, _, env, env', σ, Q, _, s, .nil, e, q => by cases e
  | i :: is, v :: vs, d :: ds, env, env', σ, Q, hi, s, .cons h r, e, q => by
    refine ⟨v, vs, rfl, ?_⟩
    exact names_go is vs ds _ env' _ Q (fun j hj => hi j (List.mem_cons_of_mem _ hj)) (s.setSlot (ev := .d d) i h fun o => by cases o) r e fun σ' s' w => q σ' s' (w.trans (wipe_set (hi i List.mem_cons_self)))
theorem setAll_len : ∀ (is : List Nat) (ds : List PyData) (env env' : Env), setAll is ds env = some env' → ds.length = is.length
  | [], [], _, _, _ => rfl
  | [], _ :: _, _, _, h => by cases h
  | _ :: _, [], _, _, h => by cases h
  | i :: is, d :: ds, env, env', h => by rw [List.length_cons, List.length_cons, setAll_len is ds _ env' h]
theorem jg_tup {X : Cx} {ca : Str → Addr} {es : List Expr} {k : Nat} {pos : Pos} {is : List Nat} (hc : X.calm = true) (h : PGs X es (gNames is)) (hn : (assignEach es X.env).length = is.length := by rfl) (hst : (assignEach es X.env).findIdx? (·.1) = none := by rfl) : JG X ca (.Tuple es k pos) (tgT is) is :=
  imp_g (pg_tup hc h hn hst) fun v σ H Q ⟨H0, F, ρ, S, env, x, env', s, r, ho, e, q⟩ => by
    cases x with
    | d y =>
      cases y with
      | tuple ds =>
        cases r with
        | tup h1 d1 =>
          exact ⟨_, _, rfl, same_t s.fz h1, by rw [d1.length]; exact setAll_len _ _ _ _ e, names_go is _ ds env env' σ Q (fun _ h => h) s d1 e q⟩
      | _ => cases e
    | _ => cases e
theorem jg_unl {X : Cx} {ca : Str → Addr} {es : List Expr} {k : Nat} {pos : Pos} {is : List Nat} (hc : X.calm = true) (h : PGs X es (gNames is)) (hn : (assignEach es X.env).length = is.length := by rfl) (hst : (assignEach es X.env).findIdx? (·.1) = none := by rfl) : JG X ca (.Tuple es k pos) (tgL is) is :=
  imp_g (pg_unl hc h hn hst) fun v σ H Q ⟨H0, F, ρ, S, env, x, env', s, r, ho, e, q⟩ => by
    cases x with
    | d y =>
      cases y with
      | list ds =>
        cases r with
        | lst h1 d1 =>
          exact ⟨_, _, rfl, SqL.of (s.fz _ _ h1), by rw [d1.length]; exact setAll_len _ _ _ _ e, names_go is _ ds env env' σ Q (fun _ h => h) s d1 e q⟩
      | _ => cases e
    | _ => cases e
/-- target = e -/
def asgG (t : DG) (f : DE) : DS := fun env S => (f env S).bindS env fun x S1 => match x.fixed with
  | some ev => match t ev env with
    | some env' => .next env' S1
    | none => .stuck
  | none => .stuck
theorem js_asg {X : Cx} {ca : Str → Addr} {W : WX} {tg e : Expr} {t : DG} {f : DE} {pos : Pos} {is : List Nat} (h : JE X ca W e f) (hg : JG X ca tg t is) (hs : swapsWithSole [tg] e pos.line X.env = pure false := by rfl) (hw : swappedStores [tg] e X.env = pure none := by rfl)
    (h1 : (assignEach [tg] X.env).map (·.2) = [assign tg X.env] := by rfl) : JS X ca W (.Assign [tg] e pos) (asgG t f) := fun z => imp_s (ps_asg h hg hs hw h1) fun D σ H ⟨F, ρ, S, env, s, p⟩ =>
  ts1 (D := D) s p fun x S1 v F1 H1 ρ1 n s1 r p1 => by
    cases q : x.fixed with
    | none => simp only [q] at p1; exact p1.elim
    | some ev =>
      simp only [q] at p1
      obtain ⟨F2, s2, sm, r2⟩ := s.fixed n r q
      cases q2 : t ev env with
      | none => simp only [q2] at p1; exact p1.elim
      | some env' =>
        simp only [q2] at p1
        exact ⟨z.H0, F2, ρ1, S1, env, ev, env', s2.sim, r2, fixed_own q, q2, fun σ' s3 _ => p1 σ' F2 H1 ρ1 sm ⟨s3, s2.stp⟩⟩

/-! ### for -/
def forD (t : DG) (body : DS) : List PyData → DS
  | [] => fun env S => .next env S
  | d :: ds => fun env S => match t (.d d) env with
    | none => .stuck
    | some env1 => match body env1 S with
      | .next env' S' => forD t body ds env' S'
      | .cont env' S' => forD t body ds env' S'
      | .brk env' S' => .next env' S'
      | .ret v S' => .ret v S'
      | .raise e env' S' => .raise e env' S'
      | .stuck => .stuck
def forS (f : DE) (t : DG) (body : DS) : DS := fun env S => (f env S).bindS env fun x S1 => match x with
  | .d (.list xs) => forD t body xs env S1
  | _ => .stuck
theorem DItems.on {K : PySem.W.Frag} {J : It} {F F' : Hp} {xs : List PyData} (f : Same F F') (h : DItems K J F xs) : DItems K J F' xs :=
  ⟨fun G H i g k => h.stop G H i (f.trans g) k, fun G H i g k => h.go G H i (f.trans g) k, fun G H i x H'' d g k => h.yld G H i x H'' d (f.trans g) k⟩
theorem js_for {X : Cx} {ca : Str → Addr} {W : WX} {tg iter : Expr} {body : List Stmt} {f : DE} {t : DG} {g : DS} {pos : Pos} (hp : PassesOwn (model X.prog X.w) X.A X.env X.xe) (hc : X.calm = true) {is : List Nat} (hi : JI X ca W tg iter f) (hg : JG X ca tg t is) (hb : JSs X ca W body g)
    (hs : ∀ x, foldedSetIterable iter X.env x = pure x := by intro _; rfl) : JS X ca W (.For tg iter body [] pos) (forS f t g) := fun z => imp_s (ps_for hp hc hi hg (hb z) hs) fun D σ H ⟨F, ρ, S, env, s, p⟩ => by
  refine ⟨z.H0, F, ρ, S, env, s.sim, ?_⟩
  have run : ∀ xs S1, PostS X.K ca W z F D (forD t g xs env S1) → ∀ F1 H1 ρ1 J, Now X.K ca z.H0 env σ F H ρ F1 H1 ρ1 S1 → DItems X.K J F1 xs →
      ∃ Wv : Nat → Nat → L2.St → Hp → Prop, (∃ m, Wv 0 m σ H1) ∧ ∀ i m σ H, Wv i m σ H →
      (J.stop i H ∧ D.nx σ H) ∨ (J.go i H ∧ ∃ N : L2.St → Hp → Prop, (∀ σ' H', N σ' H' → ∃ m', m' < m ∧ Wv (i + 1) m' σ' H') ∧ ∀ x H', J.yld i H x H' →
        gD X.K ca t is x σ H' fun σ2 H2 => dTS X.K ca W z g { D with nx := N, ct := N, bk := D.nx } σ2 H2) := by
    intro xs S1 p F1 H1 ρ1 J n dj
    refine ⟨fun i m σ H => m = xs.length - i ∧ i ≤ xs.length ∧ ∃ F' ρ' S' env', Same F1 F' ∧ SimS X.K ca z F' ρ' S' env' σ H ∧ PostS X.K ca W z F' D (forD t g (xs.drop i) env' S'),
      ⟨xs.length, by simp, Nat.zero_le _, F1, ρ1, S1, env, Same.refl _, s.on n, p.mono n.stp.fz⟩, ?_⟩
    rintro i m σ2 H2 ⟨rfl, hi2, F2, ρ2, S2, env2, f2, s2, p2⟩
    have dj2 := dj.on f2
    by_cases hlt : i < xs.length
    · refine .inr ⟨dj2.go F2 H2 i (Same.refl _) s2.sim.fz hlt, fun σ' H' => ∃ F' ρ' S' env', Same F1 F' ∧ SimS X.K ca z F' ρ' S' env' σ' H' ∧ PostS X.K ca W z F' D (forD t g (xs.drop (i + 1)) env' S'),
        fun σ' H' h => ⟨xs.length - (i + 1), by omega, rfl, hlt, h⟩, fun x H3 y => ?_⟩
      have hd : xs[i]? = some xs[i] := List.getElem?_eq_getElem hlt
      have ed : xs.drop i = xs[i] :: xs.drop (i + 1) := List.drop_eq_getElem_cons hlt
      rw [ed] at p2
      -- the turn's item, in its state
      obtain ⟨F3, f3, s3, r3⟩ : ∃ F3, Same F2 F3 ∧ SimS X.K ca z F3 ρ2 S2 env2 σ2 H3 ∧ Dr X.K F3 x xs[i] := by
        rcases dj2.yld F2 H2 i x H3 _ (Same.refl _) s2.sim.fz hd y with ⟨e, r⟩ | ⟨T, vs, ds, e1, e2, e3, e4, r⟩
        · subst e
          exact ⟨F2, Same.refl _, s2, r⟩
        · subst e2 e3
          have n3 : Now X.K ca z.H0 env2 σ2 F2 H2 ρ2 F2 H2 ρ2 S2 := ⟨Stp.refl _ _ _, s2.sim⟩
          have n4 := n3.newT (vs := vs) e1
          have hF := s2.sim.unfz e1
          refine ⟨_, same_fix hF, s2.on n4, ?_⟩
          rw [e4]
          exact .tup (.inl (.inl upd_same)) (r.mono (same_fix hF))
      unfold forD at p2
      cases q : t (.d xs[i]) env2 with
      | none => simp only [q] at p2; exact p2.elim
      | some env3 =>
        simp only [q] at p2
        refine ⟨z.H0, F3, ρ2, S2, env2, .d xs[i], env3, s3.sim, r3, rfl, q, fun σ4 s4 _ => ⟨F3, ρ2, S2, env3, ⟨s4, s3.stp⟩, ?_⟩⟩
        revert p2
        cases q2 : g env3 S2 with
        | next env' S' => exact fun p2 σ' F' H' ρ' f' s' => ⟨F', ρ', S', env', f2.trans (f3.trans f'), s', p2.mono (f3.trans f')⟩
        | cont env' S' => exact fun p2 σ' F' H' ρ' f' s' => ⟨F', ρ', S', env', f2.trans (f3.trans f'), s', p2.mono (f3.trans f')⟩
        | brk env' S' => exact fun p2 σ' F' H' ρ' f' s' => p2 σ' F' H' ρ' (f3.trans f') s'
        | ret v S' => exact fun p2 => p2
        | raise e env' S' => exact fun p2 cls d σ' F' H' ρ' f' s' r => p2 cls d σ' F' H' ρ' (f3.trans f') s' r
        | stuck => exact fun p2 => p2
    · have e : i = xs.length := by omega
      subst e
      rw [List.drop_length] at p2
      exact .inl ⟨dj2.stop F2 H2 _ (Same.refl _) s2.sim.fz (Nat.le_refl _), p2 σ2 F2 H2 ρ2 (Same.refl _) s2⟩
  have p' : PostS X.K ca W z F D ((f env S).bindS env fun x S1 => match x with
    | .d (.list xs) => forD t g xs env S1
    | _ => .stuck) := p
  clear p
  revert p'
  cases q : f env S with
  | ok x S1 =>
    cases x with
    | d y =>
      cases y with
      | list xs => exact fun p F1 H1 ρ1 J n dj => run xs S1 p F1 H1 ρ1 J n dj
      | _ => exact fun p => p.elim
    | _ => exact fun p => p.elim
  | raise e S1 => exact fun p cls d F1 H1 ρ1 n r => p cls d σ F1 H1 ρ1 n.stp.fz (s.on n) r
  | stuck => exact fun p => p.elim
end DL

set_option Elab.async false
set_option linter.all false
set_option maxRecDepth 100000
set_option maxHeartbeats 4000000
/-! DL9: lists that change, while, comprehensions, defs and their calls. -/
namespace DL
open PySem PySem.Spec PyProof.Rows L2

section
variable {K : PySem.W.Frag} {ca : Str → Addr} {W : WX} {z : Ses} {H0 F H F' H' F1 H1 F2 H2 B : Hp} {ρ ρ' ρ1 ρ2 : List Addr} {S S' S1 S2 : Store} {env env' : Env} {σ σ' : L2.St} {v : V} {ev : EV} {D : Ends}
/-- the own list of a slot is changed -/
theorem Sim.mutOwn (s : Sim K ca H0 F ρ S env σ H) {i : Nat} {a : Addr} {xs ys : List PyData} {ws : List V} (e : env[i]? = some (some (.own xs))) (e2 : σ[i]? = some (some (.ref a))) (r : DrAll K F ws ys) :
    Sim K ca H0 F ρ S (env.set i (some (.own ys))) σ (upd H a (.lst ws)) := by
  obtain ⟨hF, hB, hr, hH⟩ := s.own_at e rfl e2
  have ne : ∀ b, b ∈ ρ → b ≠ a := fun b hb z => hr (z ▸ hb)
  have sl : ∀ j ej, env.set i (some (.own ys)) = env.set i (some (.own ys)) → (env.set i (some (.own ys)))[j]? = some (some ej) → (j = i ∧ ej = .own ys) ∨ (j ≠ i ∧ env[j]? = some (some ej)) := fun j ej _ h => by
    rcases get_set h with ⟨h1, _, h3⟩ | ⟨h1, h2⟩
    · cases h3
      exact .inl ⟨h1, rfl⟩
    · exact .inr ⟨h1, h2⟩
  refine ⟨fun b o hb => ?_, s.len, s.nd, s.rfz, fun l b c e3 e4 => ?_, by rw [List.length_set]; exact s.lenE, fun j ej h => ?_, fun j k ej ek b h1 h2 o1 o2 h3 h4 => ?_⟩
  · have : b ≠ a := fun z => by rw [z, hF] at hb; cases hb
    rw [upd_ne this]
    exact s.fz _ _ hb
  · have hb := ne b (List.mem_of_getElem? e3)
    have h := s.cell l b c e3 e4
    cases c with
    | lst cs =>
      obtain ⟨vs, q1, q2⟩ := h
      exact ⟨vs, by rw [upd_ne hb]; exact q1, q2⟩
    | obj cn fs =>
      obtain ⟨dx, vs, q1, q2⟩ := h
      exact ⟨dx, vs, by rw [upd_ne hb]; exact q1, q2⟩
  · rcases sl j ej rfl h with ⟨rfl, rfl⟩ | ⟨hj, h⟩
    · exact ⟨_, e2, a, ws, rfl, hB, upd_same, hF, hr, r⟩
    · obtain ⟨w, q1, q2⟩ := s.slot j ej h
      refine ⟨w, q1, ?_⟩
      have apart : ∀ (b : Addr), ej.isOwn = true → w = .ref b → b ≠ a := fun b o hw z => by
        rw [hw, z] at q1
        exact hj (s.ownD j i ej _ a h e o rfl q1 e2)
      cases ej with
      | own zs =>
        obtain ⟨b, vs, r1, r2, r3, r4⟩ := q2
        exact ⟨b, vs, r1, r2, by rw [upd_ne (apart b rfl r1)]; exact r3, r4⟩
      | ownD zs =>
        obtain ⟨b, vs, r1, r2, r3, r4⟩ := q2
        exact ⟨b, vs, r1, r2, by rw [upd_ne (apart b rfl r1)]; exact r3, r4⟩
      | d x => exact q2
      | bor x => exact q2
      | borD x => exact q2
      | ref x => exact q2
      | scr x => exact q2
      | opq x => exact q2
      | fn x => exact q2
      | tag x => exact q2
  · have own : ∀ (j : Nat) (ej : EV), (env.set i (some (.own ys)))[j]? = some (some ej) → ej.isOwn = true → ∃ ek, env[j]? = some (some ek) ∧ ek.isOwn = true := fun j ej h o => by
      rcases sl j ej rfl h with ⟨rfl, rfl⟩ | ⟨hj, h⟩
      · exact ⟨_, e, rfl⟩
      · exact ⟨ej, h, o⟩
    obtain ⟨e5, h5, o5⟩ := own j ej h1 o1
    obtain ⟨e6, h6, o6⟩ := own k ek h2 o2
    exact s.ownD j k e5 e6 b h5 h6 o5 o6 h3 h4
theorem SimS.mutOwn (s : SimS K ca z F ρ S env σ H) {i : Nat} {a : Addr} {xs ys : List PyData} {ws : List V} (e : env[i]? = some (some (.own xs))) (e2 : σ[i]? = some (some (.ref a))) (r : DrAll K F ws ys) :
    SimS K ca z F ρ S (env.set i (some (.own ys))) σ (upd H a (.lst ws)) := by
  obtain ⟨hF, hB, hr, hH⟩ := s.sim.own_at e rfl e2
  refine ⟨s.sim.mutOwn e e2 r, s.stp.fz, s.stp.nfz, s.stp.rho, fun b o h1 h2 => ?_, fun b hb => ?_⟩
  · have : b ≠ a := fun z => by rw [z, hB] at h2; cases h2
    rw [upd_ne this]
    exact s.stp.fr b o h1 h2
  · by_cases e : b = a
    · rw [e]; exact hB
    · rw [upd_ne e] at hb
      exact s.stp.mono b hb
/-- a cell's list is changed -/
theorem Sim.mutCell (s : Sim K ca H0 F ρ S env σ H) {l : Nat} {a : Addr} {ys : List PyData} {ws : List V} (e : ρ[l]? = some a) (r : DrAll K F ws ys) :
    Sim K ca H0 F ρ (S.set l (.lst ys)) env σ (upd H a (.lst ws)) := by
  have ha : a ∈ ρ := List.mem_of_getElem? e
  have hF := s.rfz a ha
  refine ⟨fun b o hb => ?_, by rw [List.length_set]; exact s.len, s.nd, s.rfz, fun k b c e3 e4 => ?_, s.lenE, fun j ej h => ?_, s.ownD⟩
  · have : b ≠ a := fun z => by rw [z, hF] at hb; cases hb
    rw [upd_ne this]
    exact s.fz _ _ hb
  · rcases get_set e4 with ⟨h1, h2, h3⟩ | ⟨h1, h2⟩
    · subst h1 h3
      rw [e] at e3
      cases e3
      exact ⟨ws, upd_same, r⟩
    · have hb : b ≠ a := fun z => by
        subst z
        exact h1 (nodup_ixA s.nd e3 e)
      have h := s.cell k b c e3 h2
      cases c with
      | lst cs =>
        obtain ⟨vs, q1, q2⟩ := h
        exact ⟨vs, by rw [upd_ne hb]; exact q1, q2⟩
      | obj cn fs =>
        obtain ⟨dx, vs, q1, q2⟩ := h
        exact ⟨dx, vs, by rw [upd_ne hb]; exact q1, q2⟩
  · obtain ⟨w, q1, q2⟩ := s.slot j ej h
    refine ⟨w, q1, ?_⟩
    cases ej with
    | own zs =>
      obtain ⟨b, vs, r1, r2, r3, r4, r5, r6⟩ := q2
      exact ⟨b, vs, r1, r2, by rw [upd_ne (show b ≠ a from fun z => r5 (by rw [z]; exact ha))]; exact r3, r4, r5, r6⟩
    | ownD zs =>
      obtain ⟨b, vs, r1, r2, r3, r4, r5, r6⟩ := q2
      exact ⟨b, vs, r1, r2, by rw [upd_ne (show b ≠ a from fun z => r5 (by rw [z]; exact ha))]; exact r3, r4, r5, r6⟩
    | d x => exact q2
    | bor x => exact q2
    | borD x => exact q2
    | ref x => exact q2
    | scr x => exact q2
    | opq x => exact q2
    | fn x => exact q2
    | tag x => exact q2
where
  nodup_ixA {l : List Addr} (hN : l.Nodup) {i j : Nat} {x : Addr} (a : l[i]? = some x) (b : l[j]? = some x) : i = j := by
    obtain ⟨h1, e1⟩ := List.getElem?_eq_some_iff.mp a
    obtain ⟨h2, e2⟩ := List.getElem?_eq_some_iff.mp b
    exact (List.getElem_inj hN).mp (e1.trans e2.symm)
theorem SimS.mutCell (s : SimS K ca z F ρ S env σ H) {l : Nat} {a : Addr} {ys : List PyData} {ws : List V} (e : ρ[l]? = some a) (r : DrAll K F ws ys) :
    SimS K ca z F ρ (S.set l (.lst ys)) env σ (upd H a (.lst ws)) := by
  have ha : a ∈ ρ := List.mem_of_getElem? e
  have old : a ∈ z.r0 ∨ z.H0 a = none := by
    obtain ⟨new, e1, e2⟩ := s.stp.rho
    rw [e1] at ha
    rcases List.mem_append.mp ha with h | h
    · exact .inl h
    · exact .inr (e2 a h)
  refine ⟨s.sim.mutCell e r, s.stp.fz, s.stp.nfz, s.stp.rho, fun b o h1 h2 => ?_, fun b hb => ?_⟩
  · have : b ≠ a := fun z => by
      rcases old with q | q
      · exact h1 (z ▸ q)
      · rw [z, q] at h2; cases h2
    rw [upd_ne this]
    exact s.stp.fr b o h1 h2
  · by_cases e : b = a
    · rw [e, upd_same] at hb
      cases hb
    · rw [upd_ne e] at hb
      exact s.stp.mono b hb
/-- an own list becomes a cell -/
theorem Now.cell (n : Now K ca H0 env σ F H ρ F1 H1 ρ1 S1) (old : Old env σ H) {xs : List PyData} (r : RepE K F1 ρ1 H env σ H1 v (.own xs)) :
    ∃ a, v = .ref a ∧ Now K ca H0 env σ F H ρ F1 H1 (ρ1 ++ [a]) (S1 ++ [.lst xs]) := by
  obtain ⟨a, vs, e1, e2, e3, e4, e5, e6⟩ := r
  have s := n.sim
  have hget : ∀ (k : Nat) (b : Addr), ρ1[k]? = some b → (ρ1 ++ [a])[k]? = some b := fun k b h => by
    rw [List.getElem?_append_left (List.getElem?_eq_some_iff.mp h).1]
    exact h
  refine ⟨a, e1, ⟨n.stp.fz, n.stp.nfz, ?_, n.stp.fr, n.stp.mono⟩, ⟨s.fz, by rw [List.length_append, List.length_append, s.len]; rfl, ?_, fun b hb => ?_, fun k b c h1 h2 => ?_, s.lenE, fun j ej h => ?_, s.ownD⟩⟩
  · obtain ⟨new, q1, q2⟩ := n.stp.rho
    refine ⟨new ++ [a], by rw [q1, List.append_assoc], fun b hb => ?_⟩
    rcases List.mem_append.mp hb with h | h
    · exact q2 b h
    · simp at h
      rw [h]
      exact e2
  · rw [List.nodup_append]
    refine ⟨s.nd, by simp, fun b hb c hc => ?_⟩
    simp at hc
    subst hc
    exact fun q => e5 (q ▸ hb)
  · rcases List.mem_append.mp hb with h | h
    · exact s.rfz b h
    · simp at h
      rw [h]
      exact e4
  · by_cases hk : k < ρ1.length
    · rw [List.getElem?_append_left hk] at h1
      rw [List.getElem?_append_left (by rw [← s.len]; exact hk)] at h2
      have h := s.cell k b c h1 h2
      cases c with
      | lst cs => exact h
      | obj cn fs =>
        obtain ⟨dx, vs, q1, q2⟩ := h
        exact ⟨dx, vs, q1, Paired.mapP q2 fun p q z => ⟨z.1, RepF.mono (Same.refl _) hget z.2⟩⟩
    · rw [List.getElem?_append_right (by omega)] at h1
      rw [List.getElem?_append_right (by rw [← s.len]; omega)] at h2
      rw [← s.len] at h2
      cases q : k - ρ1.length with
      | zero =>
        rw [q] at h1 h2
        cases h1
        cases h2
        exact ⟨vs, e3, e6⟩
      | succ m =>
        rw [q] at h1
        simp at h1
  · obtain ⟨w, q1, q2⟩ := s.slot j ej h
    refine ⟨w, q1, ?_⟩
    cases ej with
    | own zs =>
      obtain ⟨b, us, r1, r2, r3, r4, r5, r6⟩ := q2
      refine ⟨b, us, r1, r2, r3, r4, fun hb => ?_, r6⟩
      rcases List.mem_append.mp hb with q | q
      · exact r5 q
      · simp at q
        subst r1 q
        exact old _ e2 j _ h rfl q1
    | ownD zs =>
      obtain ⟨b, us, r1, r2, r3, r4, r5, r6⟩ := q2
      refine ⟨b, us, r1, r2, r3, r4, fun hb => ?_, r6⟩
      rcases List.mem_append.mp hb with q | q
      · exact r5 q
      · simp at q
        subst r1 q
        exact old _ e2 j _ h rfl q1
    | d x => exact q2
    | bor x => exact q2
    | borD x => exact q2
    | ref x =>
      obtain ⟨b, q3, q4⟩ := q2
      exact ⟨b, q3, hget _ _ q4⟩
    | scr x => exact q2
    | opq x => exact q2
    | fn x => exact q2
    | tag x => exact q2
end
/-- a fresh list, known by reference from here on -/
def refE (f : DE) : DE := fun env S => (f env S).bind fun x S1 => match x with
  | .own xs => .ok (.ref S1.length) (S1 ++ [.lst xs])
  | _ => .stuck
theorem je_ref {X : Cx} {ca : Str → Addr} {W : WX} {e : Expr} {f : DE} (h : JE X ca W e f) : JE X ca W e (refE f) := imp_e h fun σ H Q h =>
  te1 (k := fun env x S1 => match x with
  | .own xs => .ok (.ref S1.length) (S1 ++ [.lst xs])
  | _ => .stuck) h fun H0 F ρ S env s x S1 v F1 H1 ρ1 n r p => by
    cases x with
    | own xs =>
      obtain ⟨a, e, n2⟩ := n.cell s.old r
      refine p v F1 H1 _ n2 ⟨a, e, ?_⟩
      rw [← n.sim.len, List.getElem?_append_right (Nat.le_refl _), Nat.sub_self]
      rfl
    | _ => exact p.elim

/-! ### found.append(e) -/
def appS (i : Nat) (f : DE) : DS := fun env S => match env[i]? with
  | some (some (.own xs)) => (f env S).bindS env fun x S1 => match x.fixed with
    | some (.d d) => if xs.length < LIM then .next (env.set i (some (.own (xs ++ [d])))) S1 else .stuck
    | _ => .stuck
  | some (some (.ref l)) => match S[l]? with
    | some (.lst _) => (f env S).bindS env fun x S1 => match x.fixed, S1[l]? with
      | some (.d d), some (.lst xs) => if xs.length < LIM then .next env (S1.set l (.lst (xs ++ [d]))) else .stuck
      | _, _ => .stuck
    | _ => .stuck
  | _ => .stuck
section
variable {X : Cx} {ca : Str → Addr} {W : WX} {e : Expr} {f : DE}
theorem js_app {i : Nat} {x : Str} {p apos cpos pos : Pos} (hN : X.N[i]? = some x) (hv : Vis X.env.scope x) (h : JE X ca W e f) (hd : (x == ("__debug__" : Str)) = false := by decide) (hcd : (x == ("__classdict__" : Str)) = false := by decide)
    (hbase : attributeBase (.Name x p) "append" X.env (eval (.Name x p) X.env) = eval (.Name x p) X.env := by rfl)
    (hfew : ((backTo cpos (starEach [e] X.env)).all (fun x => !x.1) && (backToKw cpos (keywordEach [] X.env)).all (fun x => x.1.isSome) && decide ([e].length + ([] : List Keyword).length + (if ([] : List Keyword).isEmpty then 0 else 1) < 30)) = true := by rfl)
    (hline : (apos.endLine == cpos.line) = true := by rfl) (hs : starEach [e] X.env = (false, eval e X.env) :: starEach [] X.env := by rfl) (hsw : swapsWith (.Call (.Attribute (.Name x p) "append" apos) [e] [] cpos) none pos.line X.env = pure false := by rfl) :
    JS X ca W (.Expr (.Call (.Attribute (.Name x p) "append" apos) [e] [] cpos) pos) (appS i f) := fun z =>
  imp_s (ps_expr (pe_bm PySem.F.plainAttrs_list PySem.F.slot_list_append PySem.F.type_list_append mt_append (pe_var hN hv hd hcd) (pa_cons h pa_nil hs) hbase hfew hline hs) hsw) fun D σ H ⟨F, ρ, S, env, s, p⟩ => by
    have hL := lim_eq
    unfold appS at p
    cases q : env[i]? with
    | none => simp only [q] at p; exact p.elim
    | some o =>
      cases o with
      | none => simp only [q] at p; exact p.elim
      | some ev =>
        obtain ⟨w, e1, r0⟩ := s.sim.slot i ev q
        refine ⟨w, e1, ?_⟩
        cases ev with
        | own xs =>
          simp only [q] at p
          obtain ⟨a, ws, r1, r2, r3, r4, r5, r6⟩ := r0
          subst r1
          refine ⟨.inl ⟨rfl, ws, SqL.of r3⟩, ts1 (D := D) s p fun y S1 v F1 H1 ρ1 n s1 r p1 => ?_⟩
          cases q2 : y.fixed with
          | none => simp only [q2] at p1; exact p1.elim
          | some y' =>
            cases y' with
            | d d =>
              simp only [q2] at p1
              by_cases hl : xs.length < LIM
              · rw [if_pos hl] at p1
                obtain ⟨F2, s2, sm, rr⟩ := s.fixed n r q2
                obtain ⟨w2, e2, a2, ws2, t1, t2, t3, t4, t5, t6⟩ := s2.sim.slot i _ q
                rw [e1] at e2
                cases e2
                cases t1
                refine ⟨a, ws2, v, rfl, rfl, t3, by rw [t6.length]; omega, ?_⟩
                exact p1 σ F2 _ ρ1 sm (s2.mutOwn q e1 (t6.append (.cons rr .nil)))
              · rw [if_neg hl] at p1
                exact p1.elim
            | _ => simp only [q2] at p1; exact p1.elim
        | ref l =>
          simp only [q] at p
          obtain ⟨a, r1, r2⟩ := r0
          subst r1
          have main : ∀ y S1 v F1 H1 ρ1, Now X.K ca z.H0 env σ F H ρ F1 H1 ρ1 S1 → SimS X.K ca z F1 ρ1 S1 env σ H1 → RepE X.K F1 ρ1 H env σ H1 v y → PostS X.K ca W z F1 D (match y.fixed, S1[l]? with
              | some (.d d), some (.lst xs) => if xs.length < LIM then .next env (S1.set l (.lst (xs ++ [d]))) else .stuck
              | _, _ => .stuck) → rAppend (.ref a) [v] H1 fun _ H1 => D.nx σ H1 := fun y S1 v F1 H1 ρ1 n s1 r p1 => by
            cases q2 : y.fixed with
            | none => simp only [q2] at p1; exact p1.elim
            | some y' =>
              cases y' with
              | d d =>
                cases q3 : S1[l]? with
                | none => simp only [q2, q3] at p1; exact p1.elim
                | some c =>
                  cases c with
                  | obj cn fs => simp only [q2, q3] at p1; exact p1.elim
                  | lst xs =>
                    simp only [q2, q3] at p1
                    by_cases hl : xs.length < LIM
                    · rw [if_pos hl] at p1
                      obtain ⟨F2, s2, sm, rr⟩ := s.fixed n r q2
                      have e3 := n.stp.rget r2
                      obtain ⟨ws, t3, t6⟩ := s2.sim.cell l a _ e3 q3
                      refine ⟨a, ws, v, rfl, rfl, t3, by rw [t6.length]; omega, ?_⟩
                      exact p1 σ F2 _ ρ1 sm (s2.mutCell e3 (t6.append (.cons rr .nil)))
                    · rw [if_neg hl] at p1
                      exact p1.elim
              | _ => simp only [q2] at p1; exact p1.elim
          cases q4 : S[l]? with
          | none => simp only [q4] at p; exact p.elim
          | some c =>
            cases c with
            | obj cn fs => simp only [q4] at p; exact p.elim
            | lst xs0 =>
              simp only [q4] at p
              obtain ⟨ws, t3, _⟩ := s.sim.cell l a _ r2 q4
              exact ⟨.inl ⟨rfl, ws, SqL.of t3⟩, ts1 (D := D) s p main⟩
        | d x => simp only [q] at p; exact p.elim
        | bor x => simp only [q] at p; exact p.elim
        | borD x => simp only [q] at p; exact p.elim
        | ownD x => simp only [q] at p; exact p.elim
        | scr x => simp only [q] at p; exact p.elim
        | opq x => simp only [q] at p; exact p.elim
        | fn x => simp only [q] at p; exact p.elim
        | tag x => simp only [q] at p; exact p.elim
end
end DL

set_option Elab.async false
set_option linter.all false
set_option maxRecDepth 100000
set_option maxHeartbeats 4000000
/-! DL10: stores by index, while, comprehensions, defs and their calls. -/
namespace DL
open PySem PySem.Spec PyProof.Rows L2

/-! ### o[i] = e, o a name -/
def putI (env : Env) (S : Store) (i : Nat) (k : Int) (d : PyData) : RS := match env[i]? with
  | some (some (.own xs)) => match ixN xs.length k with
    | some j => .next (env.set i (some (.own (xs.set j d)))) S
    | none => .stuck
  | some (some (.ref l)) => match S[l]? with
    | some (.lst xs) => match ixN xs.length k with
      | some j => .next env (S.set l (.lst (xs.set j d)))
      | none => .stuck
    | _ => .stuck
  | _ => .stuck
def kPut (env : Env) (i : Nat) (d : PyData) (y : EV) (S : Store) : RS := match y with
  | .d (.int k) => putI env S i k d
  | _ => .stuck
def setS (i : Nat) (fi fv : DE) : DS := fun env S => (fv env S).bindS env fun x S1 => match x.fixed, env[i]? with
  | some (.d d), some (some _) => (fi env S1).bindS env fun y S2 => kPut env i d y S2
  | _, _ => .stuck
section
variable {X : Cx} {ca : Str → Addr} {W : WX} {e ix : Expr} {f fi fv : DE}
theorem put_ok {K : PySem.W.Frag} {z : Ses} {F H : Hp} {ρ : List Addr} {S : Store} {env : Env} {σ : L2.St} {D : Ends} {i : Nat} {k : Int} {d : PyData} {v : V} (s : SimS K ca z F ρ S env σ H) (r : Dr K F v d) (p : PostS K ca W z F D (putI env S i k d)) :
    ∃ o, σ[i]? = some (some o) ∧ rSetL o (.int k) v H fun H1 => D.nx σ H1 := by
  unfold putI at p
  cases q : env[i]? with
  | none => simp only [q] at p; exact p.elim
  | some o =>
    cases o with
    | none => simp only [q] at p; exact p.elim
    | some ev =>
      obtain ⟨w, e1, r0⟩ := s.sim.slot i ev q
      refine ⟨w, e1, ?_⟩
      cases ev with
      | own xs =>
        simp only [q] at p
        obtain ⟨a, ws, r1, r2, r3, r4, r5, r6⟩ := r0
        subst r1
        cases q2 : ixN xs.length k with
        | none => simp only [q2] at p; exact p.elim
        | some j =>
          simp only [q2] at p
          exact ⟨a, ws, k, j, rfl, rfl, r3, by rw [r6.length]; exact q2, p σ F _ ρ (Same.refl _) (s.mutOwn q e1 (r6.set r j))⟩
      | ref l =>
        simp only [q] at p
        obtain ⟨a, r1, r2⟩ := r0
        subst r1
        cases q3 : S[l]? with
        | none => simp only [q3] at p; exact p.elim
        | some c =>
          cases c with
          | obj cn fs => simp only [q3] at p; exact p.elim
          | lst xs =>
            simp only [q3] at p
            obtain ⟨ws, t3, t6⟩ := s.sim.cell l a _ r2 q3
            cases q2 : ixN xs.length k with
            | none => simp only [q2] at p; exact p.elim
            | some j =>
              simp only [q2] at p
              exact ⟨a, ws, k, j, rfl, rfl, t3, by rw [t6.length]; exact q2, p σ F _ ρ (Same.refl _) (s.mutCell r2 (t6.set r j))⟩
      | d x => simp only [q] at p; exact p.elim
      | bor x => simp only [q] at p; exact p.elim
      | borD x => simp only [q] at p; exact p.elim
      | ownD x => simp only [q] at p; exact p.elim
      | scr x => simp only [q] at p; exact p.elim
      | opq x => simp only [q] at p; exact p.elim
      | fn x => simp only [q] at p; exact p.elim
      | tag x => simp only [q] at p; exact p.elim
theorem js_put {i : Nat} {x : Str} {p p2 pos : Pos} (hN : X.N[i]? = some x) (hv : Vis X.env.scope x) (he : JE X ca W e fv) (hi : JE X ca W ix fi) (hd : (x == ("__debug__" : Str)) = false := by decide) (hcd : (x == ("__classdict__" : Str)) = false := by decide)
    (ha : ∀ v, assign (.Subscript (.Name x p) ix p2) X.env v = (do
      let ov ← holding [v] (eval (.Name x p) X.env)
      let iv ← holding [v, ov] (eval ix X.env)
      standAt p2
      holding [v, ov, iv] (setItem ov iv v)
      release [v, ov, iv] []) := by intro _; rfl)
    (hs : swapsWithSole [.Subscript (.Name x p) ix p2] e pos.line X.env = pure false := by rfl) (hw : swappedStores [.Subscript (.Name x p) ix p2] e X.env = pure none := by rfl)
    (h1 : (assignEach [.Subscript (.Name x p) ix p2] X.env).map (·.2) = [assign (.Subscript (.Name x p) ix p2) X.env] := by rfl) :
    JS X ca W (.Assign [.Subscript (.Name x p) ix p2] e pos) (setS i fi fv) := fun z =>
  imp_s (ps_asg he (pg_sub (pe_var hN hv hd hcd) hi set_list ha) hs hw h1) fun D σ H ⟨F, ρ, S, env, s, p⟩ =>
    ts1 (D := D) s p fun x S1 v F1 H1 ρ1 n s1 r p1 => by
      cases q : x.fixed with
      | none => simp only [q] at p1; exact p1.elim
      | some x' =>
        cases x' with
        | d d =>
          cases he : env[i]? with
          | none => simp only [q, he] at p1; exact p1.elim
          | some oe =>
          cases oe with
          | none => simp only [q, he] at p1; exact p1.elim
          | some ev =>
          simp only [q, he] at p1
          obtain ⟨F2, s2, sm, rr⟩ := s.fixed n r q
          obtain ⟨w, e1, r0⟩ := s2.sim.slot i ev he
          refine ⟨w, e1, ts1 (D := D) s2 (p1.mono sm) fun y S2 v2 F3 H3 ρ3 n3 s3 r3 p3 => ?_⟩
          cases y with
          | d y =>
            cases y with
            | int k =>
              cases r3
              obtain ⟨o, e2, q2⟩ := put_ok s3 (Dr.mono n3.stp.fz rr) p3
              rw [e1] at e2
              cases e2
              exact q2
            | _ => exact p3.elim
          | _ => exact p3.elim
        | _ => simp only [q] at p1; exact p1.elim
end

/-! ### found.append(left.pop(e)) -/
def appPop (i j : Nat) (f : DE) : DS := fun env S => match env[i]?, env[j]? with
  | some (some (.own xs)), some (some (.own ys)) => (f env S).bindS env fun x S1 => match x with
    | .d (.int k) => match ixN ys.length k with
      | some m => match ys[m]? with
        | some y => if xs.length < LIM ∧ i ≠ j ∧ k < 2 ^ 63 ∧ -(2 ^ 63) ≤ k then .next ((env.set j (some (.own (ys.eraseIdx m)))).set i (some (.own (xs ++ [y])))) S1 else .stuck
        | none => .stuck
      | none => .stuck
    | _ => .stuck
  | _, _ => .stuck
theorem ixN_ix {n : Nat} {i : Int} {j : Nat} (h : ixN n i = some j) : seqIndex? i n = some j := (ixN_seq h).1
section
variable {X : Cx} {ca : Str → Addr} {W : WX} {e : Expr} {f : DE}
theorem js_appPop {i j : Nat} {x y : Str} {p p2 apos apos2 cpos cpos2 pos : Pos} (hN : X.N[i]? = some x) (hv : Vis X.env.scope x) (hN2 : X.N[j]? = some y) (hv2 : Vis X.env.scope y) (h : JE X ca W e f) (hd : (x == ("__debug__" : Str)) = false := by decide) (hcd : (x == ("__classdict__" : Str)) = false := by decide)
    (hd2 : (y == ("__debug__" : Str)) = false := by decide) (hcd2 : (y == ("__classdict__" : Str)) = false := by decide)
    (hbase : attributeBase (.Name x p) "append" X.env (eval (.Name x p) X.env) = eval (.Name x p) X.env := by rfl)
    (hbase2 : attributeBase (.Name y p2) "pop" X.env (eval (.Name y p2) X.env) = eval (.Name y p2) X.env := by rfl)
    (hfew : ((backTo cpos (starEach [.Call (.Attribute (.Name y p2) "pop" apos2) [e] [] cpos2] X.env)).all (fun x => !x.1) && (backToKw cpos (keywordEach [] X.env)).all (fun x => x.1.isSome) && decide ([Expr.Call (.Attribute (.Name y p2) "pop" apos2) [e] [] cpos2].length + ([] : List Keyword).length + (if ([] : List Keyword).isEmpty then 0 else 1) < 30)) = true := by rfl)
    (hfew2 : ((backTo cpos2 (starEach [e] X.env)).all (fun x => !x.1) && (backToKw cpos2 (keywordEach [] X.env)).all (fun x => x.1.isSome) && decide ([e].length + ([] : List Keyword).length + (if ([] : List Keyword).isEmpty then 0 else 1) < 30)) = true := by rfl)
    (hline : (apos.endLine == cpos.line) = true := by rfl) (hline2 : (apos2.endLine == cpos2.line) = true := by rfl)
    (hs : starEach [.Call (.Attribute (.Name y p2) "pop" apos2) [e] [] cpos2] X.env = (false, eval (.Call (.Attribute (.Name y p2) "pop" apos2) [e] [] cpos2) X.env) :: starEach [] X.env := by rfl) (hs2 : starEach [e] X.env = (false, eval e X.env) :: starEach [] X.env := by rfl)
    (hsw : swapsWith (.Call (.Attribute (.Name x p) "append" apos) [.Call (.Attribute (.Name y p2) "pop" apos2) [e] [] cpos2] [] cpos) none pos.line X.env = pure false := by rfl) :
    JS X ca W (.Expr (.Call (.Attribute (.Name x p) "append" apos) [.Call (.Attribute (.Name y p2) "pop" apos2) [e] [] cpos2] [] cpos) pos) (appPop i j f) := fun z =>
  imp_s (ps_expr (pe_bm PySem.F.plainAttrs_list PySem.F.slot_list_append PySem.F.type_list_append mt_append (pe_var hN hv hd hcd)
    (pa_cons (pe_bm PySem.F.plainAttrs_list PySem.F.slot_list_pop PySem.F.type_list_pop mt_popAt (pe_var hN2 hv2 hd2 hcd2) (pa_cons h pa_nil hs2) hbase2 hfew2 hline2 hs2) pa_nil hs) hbase hfew hline hs) hsw) fun D σ H ⟨F, ρ, S, env, s, p⟩ => by
    have hL := lim_eq
    unfold appPop at p
    split at p
    · rename_i xs ys q1 q2
      obtain ⟨w1, e1, a, ws, r1, r2, r3, r4, r5, r6⟩ := s.sim.slot i _ q1
      obtain ⟨w2, e2, b, us, t1, t2, t3, t4, t5, t6⟩ := s.sim.slot j _ q2
      subst r1 t1
      refine ⟨_, e1, .inl ⟨rfl, ws, SqL.of r3⟩, _, e2, .inl ⟨rfl, us, SqL.of t3⟩, ts1 (D := D) s p fun v S1 vv F1 H1 ρ1 n s1 r p1 => ?_⟩
      split at p1
      · rename_i k
        cases r
        split at p1
        · rename_i m hm
          split at p1
          · rename_i y hy
            split at p1
            · rename_i hc
              obtain ⟨hc1, hc2, hc3, hc4⟩ := hc
              have a3 := n.stp.fr _ _ r5 r3
              have b3 := n.stp.fr _ _ t5 t3
              have a6 := r6.mono n.stp.fz
              have b6 := t6.mono n.stp.fz
              obtain ⟨u, hu, ru⟩ := b6.get hy
              have hab : a ≠ b := fun z => hc2 (s.sim.ownD i j _ _ a q1 q2 rfl rfl e1 (by rw [z]; exact e2))
              refine ⟨b, us, k, m, u, rfl, rfl, b3, hc4, hc3, by rw [b6.length]; exact ixN_ix hm, hu, ?_⟩
              refine ⟨a, ws, u, rfl, rfl, by rw [upd_ne hab]; exact a3, by rw [a6.length]; omega, ?_⟩
              have s2 := s1.mutOwn q2 e2 (b6.eraseIdx m)
              have q1' : (env.set j (some (.own (ys.eraseIdx m))))[i]? = some (some (.own xs)) := by
                rw [List.getElem?_set_ne (Ne.symm hc2)]
                exact q1
              exact p1 σ F1 _ ρ1 (Same.refl _) (s2.mutOwn q1' e1 (a6.append (.cons ru .nil)))
            · exact p1.elim
          · exact p1.elim
        · exact p1.elim
      · exact p1.elim
    · exact p.elim
end

/-! ### x, y = e1, e2 (plain locals): both sides are had ahead -/
def parO (i j : Nat) (f g : DE) : DS := fun env S => (f env S).bindS env fun x S1 => (g env S1).bindS env fun y S2 => match x.kept, y.kept with
  | some a, some b => if i ≠ j then .next ((env.set i (some a)).set j (some b)) S2 else .stuck
  | _, _ => .stuck
section
variable {X : Cx} {ca : Str → Addr} {W : WX} {a b c : Expr} {f g k : DE}
theorem kept_rep {K : PySem.W.Frag} {F B H : Hp} {ρ : List Addr} {env : Env} {σ : L2.St} {v : V} {x x' : EV} (q : x.kept = some x') (r : RepE K F ρ B env σ H v x) : RepV K F ρ B H v x' := by
  cases x <;> cases q <;> exact r
theorem js_par {i j : Nat} {x y : Str} {px py pt pos : Pos} {kt k2 pt2} (hc : X.calm = true) (hN : X.N.Nodup) (hi : X.N[i]? = some x) (hj : X.N[j]? = some y) (hij : i ≠ j)
    (hx : X.env.scope.names.lookup x = some .local) (hy : X.env.scope.names.lookup y = some .local) (ha : JE X ca W a f) (hb : JE X ca W b g)
    (hw : swappedStores [.Tuple [.Name x px, .Name y py] kt pt] (.Tuple [a, b] k2 pt2) X.env = pure (some [x, y]))
    (hs : swapsWithSole [.Tuple [.Name x px, .Name y py] kt pt] (.Tuple [a, b] k2 pt2) pos.line X.env = pure false := by rfl) (hs1 : starEach [a, b] X.env = (false, eval a X.env) :: starEach [b] X.env := by rfl) (hs2 : starEach [b] X.env = (false, eval b X.env) :: starEach [] X.env := by rfl) :
    JS X ca W (.Assign [.Tuple [.Name x px, .Name y py] kt pt] (.Tuple [a, b] k2 pt2) pos) (parO i j f g) := fun z =>
  imp_s (ps_par hc hN hi hj hij hx hy (pa_cons ha (pa_cons hb pa_nil hs2) hs1) hw hs) fun D σ H ⟨F, ρ, S, env, s, p⟩ =>
    ts1 (D := D) s p fun x S1 v F1 H1 ρ1 n s1 r p1 => ts1 (D := D) s1 p1 fun y S2 w F2 H2 ρ2 n2 s2 r2 p2 => by
      cases q1 : x.kept with
      | none => simp only [q1] at p2; exact p2.elim
      | some x' =>
        cases q2 : y.kept with
        | none => simp only [q1, q2] at p2; exact p2.elim
        | some y' =>
          simp only [q1, q2] at p2
          rw [if_pos hij] at p2
          refine ⟨v, w, rfl, ?_⟩
          have rx := kept_rep q1 r
          have ry := kept_rep q2 r2
          have rx2 := rx.step n2.stp
          have t1 := s2.setSlot i (rx2.base s.stp.mono) fun o k ek _ e1 o1 => fresh_slot s.sim rx2 o k ek e1 o1
          refine p2 _ F2 H2 ρ2 (Same.refl _) (t1.setSlot j (ry.base s1.stp.mono) fun o k ek hk e1 o1 e2 => ?_)
          rcases get_set e1 with ⟨rfl, hl, e1⟩ | ⟨hk2, e1⟩
          · -- slot i: x itself
            have ev : x' = ek := Option.some.inj e1
            subst ev
            rcases get_set e2 with ⟨_, _, e2⟩ | ⟨hn, _⟩
            · have vw : v = w := Option.some.inj e2
              subst vw
              have old : ∀ a, v = .ref a → H1 a ≠ none := fun a hv => by
                cases x' with
                | own xs =>
                  obtain ⟨b, vs, t1, t2, t3, _⟩ := rx
                  rw [hv] at t1
                  cases t1
                  rw [t3]
                  exact fun z => nomatch z
                | ownD xs =>
                  obtain ⟨b, vs, t1, t2, t3, _⟩ := rx
                  rw [hv] at t1
                  cases t1
                  rw [t3]
                  exact fun z => nomatch z
                | _ => cases o1
              cases y' with
              | own xs =>
                obtain ⟨b, vs, t1, t2, t3, _⟩ := ry
                exact old b t1 t2
              | ownD xs =>
                obtain ⟨b, vs, t1, t2, t3, _⟩ := ry
                exact old b t1 t2
              | _ => cases o
            · exact hn rfl
          · rcases get_set e2 with ⟨hn, _, _⟩ | ⟨_, e2⟩
            · exact hk2 hn
            · exact fresh_slot s1.sim ry o k ek e1 o1 e2
end

/-! ### while -/
def whD (t : DE) (body : DS) : Nat → DS
  | 0 => fun _ _ => .stuck
  | n + 1 => fun env S => (t env S).bindBS env fun b S1 => if b = true then (match body env S1 with
      | .next env' S' => whD t body n env' S'
      | .cont env' S' => whD t body n env' S'
      | .brk env' S' => .next env' S'
      | .ret v S' => .ret v S'
      | .raise e env' S' => .raise e env' S'
      | .stuck => .stuck) else .next env S1
theorem js_while {X : Cx} {ca : Str → Addr} {W : WX} {c : Expr} {body : List Stmt} {f : DE} {g : DS} {pos : Pos} (N : Nat) (hp : PassesOwn (model X.prog X.w) X.A X.env X.xe) (hc : JT X ca W c f) (hb : JSs X ca W body g) : JS X ca W (.While c body [] pos) (whD f g N) := fun z =>
  imp_s (ps_while hp hc (hb z)) fun D σ H ⟨F, ρ, S, env, s, p⟩ => by
    refine ⟨fun m σ H => ∃ F' ρ' S' env', SimS X.K ca z F' ρ' S' env' σ H ∧ PostS X.K ca W z F' D (whD f g m env' S'), ⟨N, F, ρ, S, env, s, p⟩, ?_⟩
    rintro m σ2 H2 ⟨F2, ρ2, S2, env2, s2, p2⟩
    cases m with
    | zero => exact p2.elim
    | succ m =>
      refine ts1T (D := D) s2 p2 fun b S3 F3 H3 ρ3 s3 p3 => ?_
      cases b with
      | false =>
        rw [if_neg Bool.false_ne_true] at p3 ⊢
        exact p3 σ2 F3 H3 ρ3 (Same.refl _) s3
      | true =>
        rw [if_pos rfl] at p3 ⊢
        refine ⟨fun σ' H' => ∃ F' ρ' S' env', SimS X.K ca z F' ρ' S' env' σ' H' ∧ PostS X.K ca W z F' D (whD f g m env' S'), fun σ' H' h => ⟨m, Nat.lt_succ_self m, h⟩, F3, ρ3, S3, env2, s3, ?_⟩
        revert p3
        cases q : g env2 S3 with
        | next env' S' => exact fun p3 σ' F' H' ρ' f' s' => ⟨F', ρ', S', env', s', p3.mono f'⟩
        | cont env' S' => exact fun p3 σ' F' H' ρ' f' s' => ⟨F', ρ', S', env', s', p3.mono f'⟩
        | brk env' S' => exact fun p3 => p3
        | ret v S' => exact fun p3 => p3
        | raise e env' S' => exact fun p3 => p3
        | stuck => exact fun p3 => p3

/-! ### [elt for tg in iter if test] -/
def wipeE (env : Env) : List Nat → Env
  | [] => env
  | v :: vs => (wipeE env vs).set v none
def tstD : Option DE → DE
  | none => fun _ S => .ok (bE true) S
  | some f => f
def lcD (t : DG) (test : Option DE) (elt : DE) (env : Env) : List PyData → List PyData → Store → RE
  | [], acc, S => .ok (.own acc) S
  | d :: ds, acc, S => match t (.d d) env with
    | none => .stuck
    | some env1 => match tstD test env1 S with
      | .ok (.d (.bool true)) S1 => match elt env1 S1 with
        | .ok x S2 => match x.fixed with
          | some (.d y) => if acc.length < LIM then lcD t test elt env ds (acc ++ [y]) S2 else .stuck
          | _ => .stuck
        | _ => .stuck
      | .ok (.d (.bool false)) S1 => lcD t test elt env ds acc S1
      | _ => .stuck
def lcE (f : DE) (vs : List Nat) (t : DG) (test : Option DE) (elt : DE) : DE := fun env S => (f env S).bind fun x S1 => match x with
  | .d (.list xs) => lcD t test elt (wipeE env vs) xs [] S1
  | _ => .stuck
abbrev W0 : WX := fun _ _ _ _ => False
def tTest1 (K : PySem.W.Frag) (ca : Str → Addr) : Option DE → TT
  | none => tYes
  | some f => dTT K ca W0 f
section
variable {K : PySem.W.Frag} {ca : Str → Addr} {W : WX} {H0 F H F' H' F1 H1 F2 H2 B : Hp} {ρ ρ' ρ1 ρ2 : List Addr} {S S' S1 S2 : Store} {env : Env} {σ : L2.St} {v : V} {ev : EV} {Q : VK}
/-- what was so ahead of a step is so behind it -/
theorem Sim.after {env' : Env} {σ' : L2.St} {A : Hp} (s : Sim K ca H0 F ρ S env σ H) (t : Stp F H ρ F' H' ρ') (s' : Sim K ca A F' ρ' S' env' σ' H') : Sim K ca H0 F' ρ' S' env σ H' :=
  ⟨s'.fz, s'.len, s'.nd, s'.rfz, s'.cell, s.lenE, fun i ev e => by
    obtain ⟨v, e1, r⟩ := s.slot i ev e
    exact ⟨v, e1, r.step t⟩, s.ownD⟩
theorem wipeE_len (env : Env) : ∀ vs, (wipeE env vs).length = env.length
  | [] => rfl
  | v :: vs => by unfold wipeE; rw [List.length_set, wipeE_len env vs]
theorem Sim.wiped (s : Sim K ca H0 F ρ S env σ H) : ∀ vs, Sim K ca H0 F ρ S (wipeE env vs) (wipe σ vs) H
  | [] => s
  | v :: vs => by
    have ih := s.wiped vs
    unfold wipeE wipe
    refine ⟨ih.fz, ih.len, ih.nd, ih.rfz, ih.cell, by rw [List.length_set, List.length_set]; exact ih.lenE, fun j ej e => ?_, fun j k ej ek a e1 e2 o1 o2 e3 e4 => ?_⟩
    · rcases get_set e with ⟨_, _, e⟩ | ⟨hj, e⟩
      · cases e
      · obtain ⟨w, q1, q2⟩ := ih.slot j ej e
        exact ⟨w, by rw [List.getElem?_set_ne (Ne.symm hj)]; exact q1, q2⟩
    · rcases get_set e1 with ⟨_, _, e1⟩ | ⟨hj, e1⟩
      · cases e1
      · rcases get_set e2 with ⟨_, _, e2⟩ | ⟨hk, e2⟩
        · cases e2
        · rcases get_set e3 with ⟨_, _, e3⟩ | ⟨_, e3⟩
          · cases e3
          · rcases get_set e4 with ⟨_, _, e4⟩ | ⟨_, e4⟩
            · cases e4
            · exact ih.ownD j k ej ek a e1 e2 o1 o2 e3 e4
/-- a state behind a step of its own, from the start -/
theorem lc_go {J : It} {tg : DG} {is : List Nat} {test : Option DE} {elt : DE} {xs : List PyData}
    (n : Now K ca H0 env σ F H ρ F1 H1 ρ1 S1) (s0 : Sim K ca H0 F ρ S env σ H) (dj : DItems K J F1 xs) (p : PostE K ca W H0 env σ F H ρ Q (lcD tg test elt (wipeE env is) xs [] S1)) (D : Addr) (hD : H1 D = none) :
    ∃ Wv : Nat → Nat → Hp → Prop, (∃ m, Wv 0 m (upd H1 D (.lst []))) ∧ ∀ i m H, Wv i m H →
      (J.stop i H ∧ Q (.ref D) H) ∨ (J.go i H ∧ ∃ Nx : Hp → Prop, (∀ H', Nx H' → ∃ m', m' < m ∧ Wv (i + 1) m' H') ∧ ∀ x H', J.yld i H x H' → gD K ca tg is x (wipe σ is) H' fun σ2 H2 => wipe σ2 is = wipe σ is ∧ tTest1 K ca test σ2 H2 fun b H3 =>
        if b = true then dTE K ca W0 elt σ2 H3 fun y H4 => ∃ acc, H4 D = some (.lst acc) ∧ acc.length < sizeLine ∧ Nx (upd H4 D (.lst (acc ++ [y]))) else Nx H3) := by
  have hL := lim_eq
  have hDF := n.sim.unfz hD
  have hDr := n.sim.notin hD
  -- the invariant
  let Inv' : Nat → Hp → Prop := fun i Hc => ∃ F' ρ' S' acc ws, Stp F1 H1 ρ1 F' Hc ρ' ∧ Sim K ca H0 F' ρ' S' env σ Hc ∧ Hc D = some (.lst ws) ∧ DrAll K F' ws acc ∧ F' D = none ∧ D ∉ ρ' ∧ PostE K ca W H0 env σ F H ρ Q (lcD tg test elt (wipeE env is) (xs.drop i) acc S')
  have notOwn : ∀ (i : Nat) (ev : EV), env[i]? = some (some ev) → ev.isOwn = true → σ[i]? ≠ some (some (.ref D)) := fun i ev e1 e2 e3 => (n.sim.own_at e1 e2 e3).2.2.2 hD
  refine ⟨fun i m Hc => m = xs.length - i ∧ i ≤ xs.length ∧ Inv' i Hc, ⟨xs.length, by simp, Nat.zero_le _, F1, ρ1, S1, [], [], Stp.alloc hD, n.sim.alloc hD, upd_same, .nil, hDF, hDr, by simpa using p⟩, ?_⟩
  rintro i m Hc ⟨rfl, hi, F2, ρ2, S2, acc, ws, st2, s2, hd2, da2, df2, dr2, p2⟩
  have dj2 := dj.on st2.fz
  by_cases hlt : i < xs.length
  · refine .inr ⟨dj2.go F2 Hc i (Same.refl _) s2.fz hlt, fun Hn => Inv' (i + 1) Hn, fun Hn h => ⟨xs.length - (i + 1), by omega, rfl, hlt, h⟩, fun x H3 y => ?_⟩
    have hd : xs[i]? = some xs[i] := List.getElem?_eq_getElem hlt
    have ed : xs.drop i = xs[i] :: xs.drop (i + 1) := List.drop_eq_getElem_cons hlt
    rw [ed] at p2
    -- the turn's item
    obtain ⟨F3, st3, s3, r3⟩ : ∃ F3, Stp F2 Hc ρ2 F3 H3 ρ2 ∧ Sim K ca H0 F3 ρ2 S2 env σ H3 ∧ Dr K F3 x xs[i] := by
      rcases dj2.yld F2 Hc i x H3 _ (Same.refl _) s2.fz hd y with ⟨e, r⟩ | ⟨T, vs, ds, e1, e2, e3, e4, r⟩
      · subst e
        exact ⟨F2, Stp.refl _ _ _, s2, r⟩
      · subst e2 e3
        have n3 : Now K ca H0 env σ F2 Hc ρ2 F2 Hc ρ2 S2 := ⟨Stp.refl _ _ _, s2⟩
        have n4 := n3.newT (vs := vs) e1
        have hF := s2.unfz e1
        refine ⟨_, n4.stp, n4.sim, ?_⟩
        rw [e4]
        exact .tup (.inl (.inl upd_same)) (r.mono (same_fix hF))
    unfold lcD at p2
    cases q : tg (.d xs[i]) (wipeE env is) with
    | none => simp only [q] at p2; exact p2.elim
    | some env3 =>
      simp only [q] at p2
      refine ⟨H0, F3, ρ2, S2, _, .d xs[i], env3, s3.wiped is, r3, rfl, q, fun σ4 s4 w4 => ⟨w4.trans wipe_wipe, ?_⟩⟩
      -- what is so behind a further step
      have onward : ∀ (F4 H4 : Hp) (ρ4 : List Addr) (S4 : Store) (A : Hp) (env' : Env) (σ' : L2.St), Stp F3 H3 ρ2 F4 H4 ρ4 → Sim K ca A F4 ρ4 S4 env' σ' H4 →
          Stp F1 H1 ρ1 F4 H4 ρ4 ∧ Sim K ca H0 F4 ρ4 S4 env σ H4 ∧ H4 D = some (.lst ws) ∧ DrAll K F4 ws acc ∧ F4 D = none ∧ D ∉ ρ4 := fun F4 H4 ρ4 S4 A env' σ' st4 s4' => by
        have t := st3.trans st4
        exact ⟨(st2.trans t), s2.after t s4', t.fr _ _ dr2 hd2, da2.mono t.fz, t.unfz df2 hd2, t.notin dr2 hd2⟩
      have elts : ∀ (F4 H4 : Hp) (ρ4 : List Addr) (S4 : Store), Stp F3 H3 ρ2 F4 H4 ρ4 → Sim K ca H0 F4 ρ4 S4 env3 σ4 H4 →
          PostE K ca W H0 env σ F H ρ Q (match elt env3 S4 with
            | .ok x S2 => match x.fixed with
              | some (.d y) => if acc.length < LIM then lcD tg test elt (wipeE env is) (xs.drop (i + 1)) (acc ++ [y]) S2 else .stuck
              | _ => .stuck
            | _ => .stuck) → dTE K ca W0 elt σ4 H4 fun y H5 => ∃ acc, H5 D = some (.lst acc) ∧ acc.length < sizeLine ∧ Inv' (i + 1) (upd H5 D (.lst (acc ++ [y]))) := fun F4 H4 ρ4 S4 st4 s4' p4 => by
        refine ⟨H0, F4, ρ4, S4, env3, s4', ?_⟩
        cases q5 : elt env3 S4 with
        | raise e S5 => simp only [q5] at p4; exact p4.elim
        | stuck => simp only [q5] at p4; exact p4.elim
        | ok z S5 =>
          simp only [q5] at p4
          intro u F5 H5 ρ5 n5 r5
          cases q6 : z.fixed with
          | none => simp only [q6] at p4; exact p4.elim
          | some z' =>
            cases z' with
            | d y =>
              simp only [q6] at p4
              by_cases hl : acc.length < LIM
              · rw [if_pos hl] at p4
                obtain ⟨F6, n6, sm6, r6⟩ := n5.fixed s4'.old r5 q6
                obtain ⟨k1, k2, k3, k4, k5, k6⟩ := onward F6 H5 ρ5 S5 _ _ _ (st4.trans n6.stp) n6.sim
                refine ⟨ws, k3, by rw [k4.length]; omega, F6, ρ5, S5, acc ++ [y], ws ++ [u], ?_, ?_, upd_same, k4.append (.cons r6 .nil), k5, k6, p4⟩
                · refine ⟨k1.fz, k1.nfz, k1.rho, fun b o h1 h2 => ?_, fun b hb => ?_⟩
                  · have : b ≠ D := fun e => by rw [e, hD] at h2; cases h2
                    rw [upd_ne this]
                    exact k1.fr b o h1 h2
                  · by_cases e : b = D
                    · rw [e]; exact hD
                    · rw [upd_ne e] at hb
                      exact k1.mono b hb
                · refine k2.of (Same.refl _) (fun b o hb => ?_) (fun b hb => ⟨k2.rfz b hb, fun o ho => ?_⟩) fun j ev b e1 e2 e3 => ⟨(k2.own_at e1 e2 e3).1, fun o ho => ?_⟩
                  · have : b ≠ D := fun e => by rw [e, k5] at hb; cases hb
                    rw [upd_ne this]
                    exact k2.fz _ _ hb
                  · have : b ≠ D := fun e => k6 (by rw [← e]; exact hb)
                    rw [upd_ne this]
                    exact ho
                  · have : b ≠ D := fun e => notOwn j ev e1 e2 (by rw [← e]; exact e3)
                    rw [upd_ne this]
                    exact ho
              · rw [if_neg hl] at p4
                exact p4.elim
            | _ => simp only [q6] at p4; exact p4.elim
      have stop : ∀ (F4 H4 : Hp) (ρ4 : List Addr) (S4 : Store), Stp F3 H3 ρ2 F4 H4 ρ4 → Sim K ca H0 F4 ρ4 S4 env3 σ4 H4 → PostE K ca W H0 env σ F H ρ Q (lcD tg test elt (wipeE env is) (xs.drop (i + 1)) acc S4) → Inv' (i + 1) H4 := fun F4 H4 ρ4 S4 st4 s4' p4 => by
        obtain ⟨k1, k2, k3, k4, k5, k6⟩ := onward F4 H4 ρ4 S4 _ _ _ st4 s4'
        exact ⟨F4, ρ4, S4, acc, ws, k1, k2, k3, k4, k5, k6, p4⟩
      cases test with
      | none =>
        simp only [tstD, bE] at p2
        exact iteT (A := dTE K ca W0 elt σ4 H3 fun y H5 => ∃ acc, H5 D = some (.lst acc) ∧ acc.length < sizeLine ∧ Inv' (i + 1) (upd H5 D (.lst (acc ++ [y])))) (B := Inv' (i + 1) H3) (elts F3 H3 ρ2 S2 (Stp.refl _ _ _) s4 p2)
      | some f =>
        refine ⟨H0, F3, ρ2, S2, env3, s4, ?_⟩
        simp only [tstD] at p2
        revert p2
        cases q4 : f env3 S2 with
        | raise e S4 => exact fun p2 => p2.elim
        | stuck => exact fun p2 => p2.elim
        | ok b S4 =>
          cases b with
          | d b =>
            cases b with
            | bool b =>
              cases b with
              | true =>
                intro p2 F4 H4 ρ4 n4
                rw [if_pos rfl]
                exact elts F4 H4 ρ4 S4 n4.stp n4.sim p2
              | false =>
                intro p2 F4 H4 ρ4 n4
                rw [if_neg Bool.false_ne_true]
                exact stop F4 H4 ρ4 S4 n4.stp n4.sim p2
            | _ => exact fun p2 => p2.elim
          | _ => exact fun p2 => p2.elim
  · have e : i = xs.length := by omega
    subst e
    rw [List.drop_length] at p2
    unfold lcD at p2
    refine .inl ⟨dj2.stop F2 Hc _ (Same.refl _) s2.fz (Nat.le_refl _), p2 (.ref D) F2 Hc ρ2 ⟨n.stp.trans st2, s2⟩ ⟨D, ws, rfl, n.stp.mono D hD, hd2, df2, dr2, da2⟩⟩
end
end DL

set_option Elab.async false
set_option linter.all false
set_option maxRecDepth 100000
set_option maxHeartbeats 4000000
/-! DL11: comprehensions, defs and their calls. -/
namespace DL
open PySem PySem.Spec PyProof.Rows L2

section
variable {X : Cx} {ca : Str → Addr} {W : WX}
theorem te_lc {K : PySem.W.Frag} {f : DE} {is : List Nat} {t : DG} {test : Option DE} {elt : DE} {σ : L2.St} {H : Hp} {Q : VK} (h : dTE K ca W (lcE f is t test elt) σ H Q) : tLc (dTI K ca W f) (gD K ca t is) (tTest1 K ca test) (dTE K ca W0 elt) is σ H Q := by
  obtain ⟨H0, F, ρ, S, env, s, p⟩ := h
  refine ⟨H0, F, ρ, S, env, s, ?_⟩
  have p' : PostE K ca W H0 env σ F H ρ Q ((f env S).bind fun x S1 => match x with
    | .d (.list xs) => lcD t test elt (wipeE env is) xs [] S1
    | _ => .stuck) := p
  clear p
  revert p'
  cases q : f env S with
  | ok x S1 =>
    cases x with
    | d y =>
      cases y with
      | list xs => exact fun p F1 H1 ρ1 J n dj D hD => lc_go n s dj p D hD
      | _ => exact fun p => p.elim
    | _ => exact fun p => p.elim
  | raise e S1 => exact fun p => p
  | stuck => exact fun p => p.elim
theorem je_lc {elt tg iter : Expr} {ifs : List Expr} {scope : Scope} {own : List (Str × Nat)} {pos : Pos} {f fe : DE} {t : DG} {test : Option DE} (hc : X.calm = true) (hN : X.N.Nodup) (hi : JI X ca W tg iter f) (ok : BlkOk X.N X.env.scope scope own)
    (hg : ∀ (s : Shared) (H : Hp) (C : Addr) (cl : List (Str × Addr)) (fp : List Addr), JG (X.blk s H scope (compEnvC scope cl C X.env) fp) ca tg t (own.map (·.2)))
    (ht : ∀ (s : Shared) (H : Hp) (C : Addr) (cl : List (Str × Addr)) (fp : List Addr), PTs (X.blk s H scope (compEnvC scope cl C X.env) fp) ifs (tTest1 X.K ca test))
    (he : ∀ (s : Shared) (H : Hp) (C : Addr) (cl : List (Str × Addr)) (fp : List Addr), JE (X.blk s H scope (compEnvC scope cl C X.env) fp) ca W0 elt fe) (hs : ∀ x, foldedSetIterable iter X.env x = pure x := by intro _; rfl) :
    JE X ca W (.ListComp elt [⟨tg, iter, ifs, 0⟩] scope pos) (lcE f (own.map (·.2)) t test fe) := imp_e (pe_lc hc hN hi ok hg ht he hs) fun σ H Q h => te_lc h
/-- name = [..], the name a plain local, on one line -/
theorem js_setLc {i : Nat} {y : Str} {py : Pos} {elt tg iter : Expr} {ifs : List Expr} {scope : Scope} {own : List (Str × Nat)} {pos spos : Pos} {f fe : DE} {t : DG} {test : Option DE} (hc : X.calm = true) (hN : X.N.Nodup) (hy : X.N[i]? = some y) (hyl : X.env.scope.names.lookup y = some .local)
    (hsw : swapsWith (.ListComp elt [⟨tg, iter, ifs, 0⟩] scope pos) (some (.Name y py)) spos.line X.env = pure true) (hi : JI X ca W tg iter f) (ok : BlkOk X.N X.env.scope scope own)
    (hg : ∀ (s : Shared) (H : Hp) (C : Addr) (cl : List (Str × Addr)) (fp : List Addr), JG (X.blk s H scope (compEnvC scope cl C X.env) fp) ca tg t (own.map (·.2)))
    (ht : ∀ (s : Shared) (H : Hp) (C : Addr) (cl : List (Str × Addr)) (fp : List Addr), PTs (X.blk s H scope (compEnvC scope cl C X.env) fp) ifs (tTest1 X.K ca test))
    (he : ∀ (s : Shared) (H : Hp) (C : Addr) (cl : List (Str × Addr)) (fp : List Addr), JE (X.blk s H scope (compEnvC scope cl C X.env) fp) ca W0 elt fe) (hs : ∀ x, foldedSetIterable iter X.env x = pure x := by intro _; rfl) :
    JS X ca W (.Assign [.Name y py] (.ListComp elt [⟨tg, iter, ifs, 0⟩] scope pos) spos) (asgF i (lcE f (own.map (·.2)) t test fe)) := fun z =>
  imp_s (ps_setLc hc hN hy hyl hsw hi ok hg ht he hs) fun D σ H ⟨F, ρ, S, env, s, p⟩ => te_lc (ts1 (D := D) s p fun x S1 v F1 H1 ρ1 n s1 r p1 => by
    cases q : x.fixed with
    | none => simp only [q] at p1; exact p1.elim
    | some ev =>
      simp only [q] at p1
      obtain ⟨F2, s2, sm, r2⟩ := s.fixed n r q
      exact p1 _ F2 H1 ρ1 sm (s2.setSlot i r2 fun o => by rw [fixed_own q] at o; cases o))
theorem js_setLcO {i : Nat} {y : Str} {py : Pos} {elt tg iter : Expr} {ifs : List Expr} {scope : Scope} {own : List (Str × Nat)} {pos spos : Pos} {f fe : DE} {t : DG} {test : Option DE} (hc : X.calm = true) (hN : X.N.Nodup) (hy : X.N[i]? = some y) (hyl : X.env.scope.names.lookup y = some .local)
    (hsw : swapsWith (.ListComp elt [⟨tg, iter, ifs, 0⟩] scope pos) (some (.Name y py)) spos.line X.env = pure true) (hi : JI X ca W tg iter f) (ok : BlkOk X.N X.env.scope scope own)
    (hg : ∀ (s : Shared) (H : Hp) (C : Addr) (cl : List (Str × Addr)) (fp : List Addr), JG (X.blk s H scope (compEnvC scope cl C X.env) fp) ca tg t (own.map (·.2)))
    (ht : ∀ (s : Shared) (H : Hp) (C : Addr) (cl : List (Str × Addr)) (fp : List Addr), PTs (X.blk s H scope (compEnvC scope cl C X.env) fp) ifs (tTest1 X.K ca test))
    (he : ∀ (s : Shared) (H : Hp) (C : Addr) (cl : List (Str × Addr)) (fp : List Addr), JE (X.blk s H scope (compEnvC scope cl C X.env) fp) ca W0 elt fe) (hs : ∀ x, foldedSetIterable iter X.env x = pure x := by intro _; rfl) :
    JS X ca W (.Assign [.Name y py] (.ListComp elt [⟨tg, iter, ifs, 0⟩] scope pos) spos) (asgO i (lcE f (own.map (·.2)) t test fe)) := fun z =>
  imp_s (ps_setLc hc hN hy hyl hsw hi ok hg ht he hs) fun D σ H ⟨F, ρ, S, env, s, p⟩ => te_lc (ts1 (D := D) s p fun x S1 v F1 H1 ρ1 n s1 r p1 => by
    cases q : x.kept with
    | none => simp only [q] at p1; exact p1.elim
    | some ev =>
      simp only [q] at p1
      have r1 := kept_rep q r
      exact p1 _ F1 H1 ρ1 (Same.refl _) (s1.setSlot i (r1.base s.stp.mono) fun o j ej _ e1 o1 => fresh_slot s.sim r1 o j ej e1 o1))
theorem jts_nil : PTs X [] (tTest1 X.K ca none) := pts_nil
theorem jts_one {c : Expr} {f : DE} (h : JT X ca W0 c f) : PTs X [c] (tTest1 X.K ca (some f)) := pts_one h
end

/-! ### defs -/
section
variable (K : PySem.W.Frag) (ca : Str → Addr)
def PostF (F H : Hp) (ρ : List Addr) (Q : VK) (E : XK) : RE → Prop
  | .ok r S' => ∀ v F' H' ρ', Stp F H ρ F' H' ρ' → Sim K ca H F' ρ' S' [] [] H' → RepV K F' ρ' H H' v r → Q v H'
  | .raise ex S' => ∀ cls d F' H' ρ', Stp F H ρ F' H' ρ' → Sim K ca H F' ρ' S' [] [] H' → ExcRep K ca F' H' cls d ex → E cls d H'
  | .stuck => False
def spD (n : Nat) (Ff : DF) : Sp := fun vs H Q E => vs.length = n ∧ ∃ F ρ S evs, Sim K ca H F ρ S [] [] H ∧ Paired (fun v r => RepV K F ρ H H v r ∧ r.isOwn = false) vs evs ∧ PostF K ca F H ρ Q E (Ff evs S)
end
/-- from a body to the def: m names, the parameters first -/
def endF : RS → RE
  | .next _ S' => .ok (.d .none) S'
  | .ret v S' => .ok v S'
  | .raise e _ S' => .raise e S'
  | _ => .stuck
def fnD (m : Nat) (g : DS) : DF := fun evs S => endF (g (evs.map some ++ List.replicate (m - evs.length) none) S)
abbrev JF (P : Program) (w : World) (K : PySem.W.Frag) (mg : Str → Option Value) (base : Heap) (ca : Str → Addr) (k : Nat) (f : Addr) (fd : FuncData) (ps : List Str) (Ff : DF) : Prop :=
  FnOk P w K mg base (L2.CX P w) k f fd ps (spD K ca ps.length Ff)
section
variable {P : Program} {w : World} {K : PySem.W.Frag} {mg : Str → Option Value} {base : Heap} {ca : Str → Addr}
theorem start_slot {K : PySem.W.Frag} {F H : Hp} {ρ : List Addr} {m : Nat} : ∀ {vs : List V} {evs : List EV}, Paired (fun v r => RepV K F ρ H H v r ∧ r.isOwn = false) vs evs → ∀ (i : Nat) (ev : EV), (evs.map some ++ List.replicate m none)[i]? = some (some ev) →
    ∃ v, (vs.map some ++ List.replicate m none)[i]? = some (some v) ∧ RepV K F ρ H H v ev ∧ ev.isOwn = false
  | _, _, .nil, i, ev, h => by
    simp only [List.map_nil, List.nil_append] at h
    rw [List.getElem?_replicate] at h
    split at h <;> cases h
  | v :: vs, r :: rs, .cons h1 h2, 0, ev, h => by
    have e : r = ev := by simpa using h
    subst e
    exact ⟨v, rfl, h1.1, h1.2⟩
  | v :: vs, r :: rs, .cons h1 h2, i + 1, ev, h => by
    have h' : (rs.map some ++ List.replicate m none)[i]? = some (some ev) := h
    obtain ⟨u, e1, e2⟩ := start_slot h2 i ev h'
    exact ⟨u, e1, e2⟩
theorem fn_mk {x qual : Str} {params : Arguments} {body : List Stmt} {scope : Scope} {f : Addr} {fd : FuncData} {N ps : List Str} {k : Nat} {g : DS} (Fd : FunD K x qual params body scope [] [] f fd) (S : FnScope N ps scope)
    (hb : ∀ (cdv : Value) (A : Around) (outer : List PySem.Env) (s : Shared) (H : Hp) (E : XK), Room k (A.deeper (envOfC qual scope s.heap.objs.size f cdv)) →
      JSs (cxOf (L2.CX P w) P w K mg base N qual scope f cdv A outer s H E) ca (fun cls d _ H => E cls d H) body g) :
    JF P w K mg base ca (k + 1) f fd ps (fnD N.length g) := by
  refine Fd.ok S (fun vs H Q E h => h.1) fun cdv A outer s H vs Q E hr h => ?_
  obtain ⟨hl, F, ρ, St, evs, sim, pr, po⟩ := h
  refine ⟨_, hb cdv A outer s H E hr ⟨H, F, ρ⟩, F, ρ, St, evs.map some ++ List.replicate (N.length - evs.length) none, ⟨⟨sim.fz, sim.len, sim.nd, sim.rfz, sim.cell, ?_, fun i ev e => ?_, fun i j ei ej a e1 e2 o1 o2 => ?_⟩, Stp.refl _ _ _⟩, ?_⟩
  · unfold L2.start
    have := Paired.length pr
    rw [List.length_append, List.length_append, List.length_map, List.length_map, List.length_replicate, List.length_replicate, this]
  · obtain ⟨v, e1, e2, e3⟩ := start_slot pr i ev e
    unfold L2.start
    rw [Paired.length pr]
    exact ⟨v, e1, e2⟩
  · obtain ⟨v, _, _, e3⟩ := start_slot pr i ei e1
    rw [e3] at o1
    cases o1
  · unfold fnD at po
    revert po
    cases q : g (evs.map some ++ List.replicate (N.length - evs.length) none) St with
    | next env' S' => exact fun po σ' F' H' ρ' f' s' => po .non F' H' ρ' s'.stp (sim_drop s'.sim) .non
    | ret v S' => exact fun po v F' H' ρ' st s' r => po v F' H' ρ' st s' r
    | raise e env' S' => exact fun po cls d σ' F' H' ρ' f' s' r => po cls d F' H' ρ' s'.stp (sim_drop s'.sim) r
    | brk env' S' => exact fun po => po.elim
    | cont env' S' => exact fun po => po.elim
    | stuck => exact fun po => po.elim
end

/-! ### calls -/
def callE (Ff : DF) (as : DA) : DE := fun env S => (as env S).bind Ff
/-- a call without arguments, of a def that raises nothing -/
def call0E (Ff : DF) : DE := fun _ S => match Ff [] S with
  | .raise _ _ => .stuck
  | r => r
section
variable {X : Cx} {ca : Str → Addr} {W : WX} {k : Nat} {f : Addr} {fd : FuncData} {ps : List Str} {Ff : DF} {x : Str} {p pos : Pos} {e : Expr} {es : List Expr} {fs : List DE}
theorem asL_own : ∀ (fs : List DE) (env : Env) (S S' : Store) (rs : List EV), asL fs env S = .ok rs S' → ∀ r, r ∈ rs → r.isOwn = false
  | [], env, S, S', rs, h, r, hr => by
    cases h
    cases hr
  | f :: fs, env, S, S', rs, h, r, hr => by
    unfold asL consA at h
    cases q : f env S with
    | ok x S1 =>
      simp only [q, RE.bindA] at h
      cases q2 : x.fixed with
      | none => simp only [q2] at h; cases h
      | some x' =>
        simp only [q2] at h
        cases q3 : asL fs env S1 with
        | ok xs S2 =>
          simp only [q3, RA.bindA] at h
          cases h
          rcases List.mem_cons.mp hr with z | z
          · rw [z]; exact fixed_own q2
          · exact asL_own fs env S1 _ _ q3 r z
        | raise e S2 => simp only [q3, RA.bindA] at h; cases h
        | stuck => simp only [q3, RA.bindA] at h; cases h
    | raise e S1 => simp only [q, RE.bindA] at h; cases h
    | stuck => simp only [q, RE.bindA] at h; cases h
theorem paired_and {α β : Type} {R R' : α → β → Prop} : ∀ {l : List α} {m : List β}, Paired R l m → (∀ b, b ∈ m → ∀ a, R a b → R' a b) → Paired R' l m
  | _, _, .nil, _ => .nil
  | _, _, .cons h t, q => .cons (q _ List.mem_cons_self _ h) (paired_and t fun b hb => q b (List.mem_cons_of_mem _ hb))
theorem post_call {K : PySem.W.Frag} {H0 F H F1 H1 : Hp} {ρ ρ1 : List Addr} {S1 : Store} {env : Env} {σ : L2.St} {Q : VK} {r : RE} (n : Now K ca H0 env σ F H ρ F1 H1 ρ1 S1) (p : PostE K ca W H0 env σ F H ρ Q r) : PostF K ca F1 H1 ρ1 Q (fun cls d H => W cls d σ H) r := by
  cases r with
  | ok r S2 => exact fun v F2 H2 ρ2 st s2 rr => p v F2 H2 ρ2 ⟨n.stp.trans st, n.sim.after st s2⟩ (RepE.ofV (rr.base n.stp.mono))
  | raise e S2 => exact fun cls d F2 H2 ρ2 st s2 rr => p cls d F2 H2 ρ2 ⟨n.stp.trans st, n.sim.after st s2⟩ rr
  | stuck => exact p
theorem sim_base {K : PySem.W.Frag} {H0 B F H : Hp} {ρ : List Addr} {S : Store} {env : Env} {σ : L2.St} (s : Sim K ca H0 F ρ S env σ H) : Sim K ca B F ρ S [] [] H :=
  ⟨s.fz, s.len, s.nd, s.rfz, s.cell, rfl, fun i ev e => by simp at e, fun i j ei ej a e => by simp at e⟩
theorem je_call (Fk : JF X.prog X.w X.K X.mg X.base ca k f fd ps Ff) (hr : Room k X.A) (tk : Takes X W) (hg : Gl X x) (hm : X.mg x = some (.ref f)) (hk : PySem.W.keepIn X.K (.ref f) = true) (hb : Binds X.K fd ps []) (ha : JA X ca W (e :: es) (asL fs)) (hl : fs.length = ps.length := by rfl)
    (hdb : (x == ("__debug__" : Str)) = false := by decide) (he : starEach (e :: es) X.env = (false, eval e X.env) :: starEach es X.env := by rfl) (hpl : (backTo pos (starEach es X.env)).any (·.1) = false := by rfl) : JE X ca W (.Call (.Name x p) (e :: es) [] pos) (callE Ff (asL fs)) :=
  imp_e (pe_callS Fk hr hg hm hk hb (fun σ => passAt tk σ) ha hdb he hpl) fun σ H Q h => ta_end h fun H0 F ρ S env s xs S1 vs F1 H1 ρ1 ex n r p =>
    ⟨by rw [Paired.length r, asL_len _ _ _ _ _ ex, hl], F1, ρ1, S1, xs, sim_base n.sim, paired_and r fun b hb a q => ⟨by
      have ho := asL_own _ _ _ _ _ ex b hb
      cases b with
      | own x => cases ho
      | ownD x => cases ho
      | _ => exact q, asL_own _ _ _ _ _ ex b hb⟩, post_call n p⟩
theorem je_call0 (Fk : JF X.prog X.w X.K X.mg X.base ca k f fd [] Ff) (hr : Room k X.A) (hg : Gl X x) (hm : X.mg x = some (.ref f)) (hk : PySem.W.keepIn X.K (.ref f) = true) (hb : Binds X.K fd [] [])
    (hdb : (x == ("__debug__" : Str)) = false := by decide) : JE X ca W (.Call (.Name x p) [] [] pos) (call0E Ff) :=
  imp_e (pe_call0 Fk hr hg hm hk hb .nil passL hdb) fun σ H Q ⟨H0, F, ρ, S, env, s, p⟩ => by
    refine ⟨rfl, F, ρ, S, [], sim_base s, .nil, ?_⟩
    unfold call0E at p
    revert p
    have n : Now X.K ca H0 env σ F H ρ F H ρ S := ⟨Stp.refl _ _ _, s⟩
    cases q : Ff [] S with
    | ok r S2 => exact fun p v F2 H2 ρ2 st s2 rr => p v F2 H2 ρ2 ⟨st, s.after st s2⟩ (RepE.ofV rr)
    | raise e S2 => exact fun p => p.elim
    | stuck => exact fun p => p
end
end DL

set_option Elab.async false
set_option linter.all false
set_option maxRecDepth 100000
set_option maxHeartbeats 4000000
/-! DL12: sets of ints and texts, made of a list or a tuple. -/
namespace DL
open PySem PySem.Spec PyProof.Rows L2

/-- the different ones, in the order in which they are met -/
def hasK {κ : Type} [DecidableEq κ] (acc : List κ) (k : κ) : Bool := acc.any fun x => decide (x = k)
def dd1 {κ : Type} [DecidableEq κ] (acc : List κ) (k : κ) : List κ := if hasK acc k then acc else acc ++ [k]
def dd {κ : Type} [DecidableEq κ] (ks : List κ) : List κ := ks.foldl dd1 []
section
variable {κ : Type} [DecidableEq κ]
theorem dd_snoc (ks : List κ) (k : κ) : dd (ks ++ [k]) = dd1 (dd ks) k := by
  unfold dd
  rw [List.foldl_append]
  rfl
theorem dd1_any (acc : List κ) (v k : κ) : hasK (dd1 acc v) k = (hasK acc k || decide (k = v)) := by
  unfold dd1
  split
  · rename_i h
    by_cases e : k = v
    · rw [e, h, decide_eq_true rfl]
      rfl
    · rw [decide_eq_false e, Bool.or_false]
  · unfold hasK
    rw [List.any_append]
    congr 1
    by_cases e : k = v
    · subst e; simp
    · have : ¬ v = k := fun z => e z.symm
      simp [e, this]
theorem dd1_len (acc : List κ) (v : κ) : (dd1 acc v).length = if hasK acc v then acc.length else acc.length + 1 := by
  unfold dd1
  split <;> simp
theorem setOf_eq {prog : Program} {w : World} {knd : PySem.KeyKind prog w κ} {h : Heap} {a : Addr} {S S' : κ → Bool} {n n' : Nat} (hS : h.SetOf knd a S n) (e : ∀ k, S k = S' k) (en : n = n') : h.SetOf knd a S' n' := by
  have e2 : S = S' := funext e
  rw [← e2, ← en]
  exact hS
theorem dd_len : ∀ ks : List κ, (dd ks).length ≤ ks.length := fun ks => by
  have h : ∀ (l acc : List κ), (l.foldl dd1 acc).length ≤ acc.length + l.length := fun l => by
    induction l with
    | nil => exact fun acc => Nat.le_refl _
    | cons k l ih =>
      intro acc
      have := ih (dd1 acc k)
      have h2 := dd1_len acc k
      rw [List.foldl_cons, List.length_cons]
      split at h2 <;> omega
  have := h ks []
  rw [List.length_nil, Nat.zero_add] at this
  exact this
variable {prog : Program} {w : World} {A : Around} {R : Result → Shared → Prop} {I : Addr} {fp wr : List Addr} {G : Array GenState → Array GenState → Prop} {n : Nat} {P : Nat → Value → Prop} {St : Nat → Shared → Prop}
/-- the loop that fills a set from an iterator -/
theorem fill_set {knd : PySem.KeyKind prog w κ} (walk : WalksS prog w A.in1 I fp wr G n P St) (c : Addr) (hc : c ∉ fp) (ks : List κ) (hks : ks.length = n) (hb : n + 1 < scanBound)
    (hval : ∀ i v, P i v → ∃ k, ks[i]? = some k ∧ knd.is k v = true ∧ v.scannable = true) (j : Nat) : ∀ (i : Nat) (s : Shared), i + j = n → St i s →
      s.heap.SetOf knd c (fun k => hasK (dd (ks.take i)) k) (dd (ks.take i)).length →
      (∀ s', Moved (c :: wr) G s s' → s'.heap.SetOf knd c (fun k => hasK (dd ks) k) (dd ks).length → R (.ok (.ret .none)) s') →
      codeAny (model prog w) A (.builtin "set.update.loop" ⟨[.ref c, .ref I], []⟩) R s := by
  have sub : ∀ b, b ∈ wr → b ∈ c :: wr := fun b hb => List.mem_cons_of_mem _ hb
  have ncw : c ∉ wr := fun h => hc (walk.sub _ h)
  have stays : ∀ {s s' : Shared} {S : κ → Bool} {m : Nat}, Moved wr G s s' → s.heap.SetOf knd c S m → s'.heap.SetOf knd c S m := fun {s s' S m} hm hS => by
    obtain ⟨o, es, ep, t, ho, more⟩ := hS
    exact ⟨o, es, ep, t, hm.heap c _ ncw ho, more⟩
  induction j with
  | zero =>
    intro i s hi st hS fin
    obtain rfl : i = n := by omega
    refine codeAny_builtin PyProof.Rows.F.entry_set_update_loop ?_
    rw [Around.under_plainId PyProof.Rows.F.plain_set_update_loop _]
    change wpAny _ A.in1 (pyNext (.ref I) >>= _) _ _ s
    refine wpAny_bind (walk.done s _ _ st fun s1 m1 => ?_)
    change wpAny _ A.in1 (ret Value.none) _ _ s1
    rw [← hks, List.take_length] at hS
    exact wpAny_pure (fin s1 (m1.mono sub) (stays m1 hS))
  | succ j ih =>
    intro i s hi st hS fin
    have lt : i < n := by omega
    refine codeAny_builtin PyProof.Rows.F.entry_set_update_loop ?_
    rw [Around.under_plainId PyProof.Rows.F.plain_set_update_loop _]
    change wpAny _ A.in1 (pyNext (.ref I) >>= _) _ _ s
    refine wpAny_bind (walk.item i s _ _ lt st fun v s1 pv st1 m1 => ?_)
    obtain ⟨k, hk, kv, sc⟩ := hval i v pv
    have tk : ks.take (i + 1) = ks.take i ++ [k] := by rw [List.take_add_one, hk]; rfl
    have room : (dd (ks.take i)).length + 1 < scanBound := by
      have h1 := dd_len (ks.take i)
      rw [List.length_take] at h1
      omega
    change wpAny _ A.in1 (holding [v] (setAdd c v) >>= _) _ _ s1
    refine wpAny_bind (wpAny_holding ?_)
    unfold setAdd
    refine wpAny_holding (wpAny_bind (knd.pyHash (k := k) kv ?_))
    refine wpAny_setAddHashed_of (knd := knd) (s := { s1 with toks := s1.toks + 1 }) kv sc (show s1.heap.SetOf knd c _ _ from stays m1 hS) room fun h2 sb S2 => ?_
    have other : ∀ b, b ≠ c → h2.get? b = s1.heap.get? b := fun b e => sb.2 b e
    have S3 : h2.SetOf knd c (fun k' => hasK (dd (ks.take (i + 1))) k') (dd (ks.take (i + 1))).length := by
      rw [tk, dd_snoc]
      refine setOf_eq S2 (fun k' => ?_) ?_
      · rw [dd1_any]
      · rw [dd1_len]
    refine wpAny_pure ⟨plainId_quiet PyProof.Rows.F.plain_set_update_loop _, ih (i + 1) _ (by omega) (walk.frame _ s1 _ _ st1 (Nat.le_succ _) fun b hb o e => ?_) S3 fun s4 m4 S4 => ?_⟩
    · rw [other b (fun z => hc (by rw [← z]; exact hb))]
      exact e
    · refine fin s4 (Moved.trans walk.gtrans ((m1.mono sub).then_heap (Nat.le_succ _) fun b o hb e => ?_) m4) S4
      rw [other b (fun z => hb (by rw [z]; exact List.mem_cons_self))]
      exact e
end
section
variable {κ : Type} [DecidableEq κ] {prog : Program} {w : World} {A : Around} {E : Value → Shared → Prop} {s : Shared}
/-- an empty set, just made -/
abbrev newSet (led : Bool) : Obj := { cls := .type "set", dict := none, data := .set #[] 0 (.fresh 0 0 led) }
/-- set(x), x a list or a tuple whose items are keys of one kind -/
theorem set_of {knd : PySem.KeyKind prog w κ} {l : Addr} {T : String} {dct : Option Addr} {items : Array Value} {cnt : Nat} {slo : Array (Option Value)} {ks : List κ} {Q : Value → Shared → Prop} (hT : T = "list" ∨ T = "tuple") (hh : A.handled = none)
    (hl : s.heap.get? l = some { cls := .type T, dict := dct, data := .seq items cnt, slots := slo }) (hks : ks.length = items.size) (hb : items.size + 1 < scanBound)
    (hval : ∀ (i : Nat) (v : Value), items[i]? = some v → ∃ k, ks[i]? = some k ∧ knd.is k v = true ∧ v.scannable = true)
    (fin : ∀ (h' : Heap) (tk : Nat), h'.SetOf knd s.heap.objs.size (fun k => hasK (dd ks) k) (dd ks).length → (∀ b o, b < s.heap.objs.size → s.heap.get? b = some o → h'.get? b = some o) → Q (.ref s.heap.objs.size) { s with heap := h', toks := tk }) :
    wpAny (model prog w) A (call (.type "set") [.ref l]) Q E s := by
  obtain ⟨c, tl, hmro⟩ := PySem.F.called_set.mro
  have hmade := PySem.F.called_set.made
  have hsub := PySem.F.called_set.sub
  have h1 := PySem.F.called_set.notType
  have h2 := PySem.F.called_set.canCreate
  have hct := PySem.F.typeCall_set_1 (.ref l)
  refine wpAny_call (codeAny_of_tree ?_)
  change wpAny _ _ (callAny (.type "set") _) _ _ _
  refine wpAny_pure ⟨Code.quiet_builtin _ (by decide +kernel), codeAny_builtin PySem.F.entry_type_call ?_⟩
  rw [Around.under_plain (weight_type_call_type "set" [.ref l] []) rfl]
  repeat (any_goals (first | assumption | wp_step))
  refine codeAny_mono (code_set_new_1 (.ref l) (E := E) (Q₁ := fun obj s1 => ∃ led : Bool, obj = .ref s.heap.objs.size ∧ s1 = { s with heap := s.heap.push (newSet led) }) fun led => ⟨led, rfl, rfl⟩) fun r s1 hr => ?_
  match r, hr with
  | .error e, hr => exact hr
  | .ok (.next), hr => exact hr.elim
  | .ok (.brk), hr => exact hr.elim
  | .ok (.cont), hr => exact hr.elim
  | .ok (.ret obj), hr =>
    obtain ⟨led, rfl, rfl⟩ := hr
    have atS : (s.heap.push (newSet led)).get? s.heap.objs.size = some (newSet led) := Heap.get?_push_size _ rfl
    have hT0 : Shared.TypeIs { s with heap := s.heap.push (newSet led) } (.ref s.heap.objs.size) "set" := ⟨_, atS, rfl⟩
    have hli := PySem.F.called_set.init.lookup
    have hbi := PySem.F.called_set.init.bind (.ref s.heap.objs.size)
    repeat (any_goals (first | assumption | wp_step))
    refine codeAny_mono (codeAny_call_builtin (R := wants (fun r s2 => r = .none ∧ ∃ h' tk, s2 = { s with heap := h', toks := tk } ∧ h'.SetOf knd s.heap.objs.size (fun k => hasK (dd ks) k) (dd ks).length ∧
        (∀ b o, b < s.heap.objs.size → s.heap.get? b = some o → h'.get? b = some o)) E) PySem.F.called_set.init.plain PySem.F.entry_set_init (check_set_init_1 hT0 ?_)) fun r2 s2 hr2 => ?_
    · have ls : l < s.heap.objs.size := Heap.lt_size hl
      have hl2 : (s.heap.push (newSet led)).get? l = some { cls := .type T, dict := dct, data := .seq items cnt, slots := slo } := Heap.get?_push_of_some _ hl
      have nS : s.heap.objs.size ≠ (s.heap.push (newSet led)).objs.size := by
        rw [Heap.size_push]
        exact Nat.ne_of_lt (Nat.lt_succ_self _)
      have nI : l ≠ (s.heap.push (newSet led)).objs.size := by
        rw [Heap.size_push]
        exact Nat.ne_of_lt (Nat.lt_succ_of_lt ls)
      have cfp : s.heap.objs.size ∉ [(s.heap.push (newSet led)).objs.size, l] := by
        intro h
        rcases List.mem_cons.mp h with h | h
        · exact nS h
        · rw [List.mem_singleton] at h
          exact absurd ls (by rw [h]; exact Nat.lt_irrefl _)
      have hh3 : A.in1.in1.in1.handled = none := by simp [hh]
      have none0 : ∀ (ob : Obj), ((s.heap.push (newSet led)).push ob).SetOf knd s.heap.objs.size (fun k => hasK (dd (ks.take 0)) k) (dd (ks.take 0)).length := fun ob =>
        setOf_eq ((PyProof.Rows.setObjOf_fresh (knd := knd) led).setOf (Heap.get?_push_of_some _ atS) (by unfold scanBound; omega)) (fun _ => rfl) rfl
      have ended : ∀ {ob : Obj} {B : Around} {s' : Shared}, Moved (s.heap.objs.size :: [(s.heap.push (newSet led)).objs.size]) (fun a b => b = a) { s with heap := (s.heap.push (newSet led)).push ob } s' → s'.heap.SetOf knd s.heap.objs.size (fun k => hasK (dd ks) k) (dd ks).length →
          ∃ h' tk, s' = { s with heap := h', toks := tk } ∧ h'.SetOf knd s.heap.objs.size (fun k => hasK (dd ks) k) (dd ks).length ∧ (∀ b o, b < s.heap.objs.size → s.heap.get? b = some o → h'.get? b = some o) := fun {ob B s'} mv hS => by
        obtain ⟨h', g', d', tk', os'⟩ := s'
        have eg : g' = s.gens := mv.gens
        have ed : d' = s.drawn := mv.drawn
        have eo : os' = s.os := mv.os
        subst eg ed eo
        refine ⟨h', tk', rfl, hS, fun b o hb e => mv.heap b o (fun hm => ?_) (Heap.get?_push_of_some _ (Heap.get?_push_of_some _ e))⟩
        rcases List.mem_cons.mp hm with z | z
        · exact absurd hb (by rw [z]; exact Nat.lt_irrefl _)
        · rw [List.mem_singleton, Heap.size_push] at z
          exact absurd hb (by rw [z]; exact Nat.not_lt.mpr (Nat.le_succ _))
      rcases hT with rfl | rfl
      · have hsls := PySem.F.sub_list_set
        have hslf := PySem.F.sub_list_frozenset
        have hne : (Value.type "list" == Value.type "dict") = false := by decide
        have hl3 : (s.heap.push (newSet led)).IsList l items := ⟨_, hl2, rfl, cnt, rfl⟩
        unfold Builtin.«set.__init__» noKeywords Builtin.Frozenset.updateFrom
        generalize hPI : pyIter = PI
        wp_walk
        subst hPI
        refine wpAny_pyIter_list hl3 (wpAny_bind (wpAny_runValue ?_))
        refine fill_set ((Walks.list hh3 _ l nI items).toS) s.heap.objs.size cfp ks hks hb hval items.size 0 _ (by omega) ⟨⟨_, Heap.get?_push_size _ rfl, rfl, rfl⟩, hl3.push _⟩ (none0 _) fun s' mv hS => ?_
        have q := ended (B := A) mv hS
        exact wpAny_pure (wpAny_pure ⟨rfl, q⟩)
      · have hsls := PySem.F.sub_tuple_set
        have hslf := PySem.F.sub_tuple_frozenset
        have hne : (Value.type "tuple" == Value.type "dict") = false := by decide
        have hl3 : (s.heap.push (newSet led)).IsTuple l items := ⟨_, hl2, rfl, cnt, rfl⟩
        unfold Builtin.«set.__init__» noKeywords Builtin.Frozenset.updateFrom
        generalize hPI : pyIter = PI
        wp_walk
        subst hPI
        refine wpAny_pyIter_tuple hl3 (wpAny_bind (wpAny_runValue ?_))
        refine fill_set ((Walks.tuple hh3 _ l nI items).toS) s.heap.objs.size cfp ks hks hb hval items.size 0 _ (by omega) ⟨⟨_, Heap.get?_push_size _ rfl, rfl, rfl⟩, hl3.push _⟩ (none0 _) fun s' mv hS => ?_
        have q := ended (B := A) mv hS
        exact wpAny_pure (wpAny_pure ⟨rfl, q⟩)
    · match r2, hr2 with
      | .error e, hr2 => exact hr2
      | .ok (.next), hr2 => exact hr2.elim
      | .ok (.brk), hr2 => exact hr2.elim
      | .ok (.cont), hr2 => exact hr2.elim
      | .ok (.ret v), hr2 =>
        obtain ⟨rfl, h', tk, rfl, hS, hk⟩ := hr2
        repeat (any_goals (first | assumption | wp_step))
        exact fin _ _ hS hk
end

/-! ### set(x), len of it -/
def keyD : PyData → Option Key
  | .int i => some (.inl i)
  | .str x => some (.inr x)
  | _ => none
def keysD : List PyData → Option (List Key)
  | [] => some []
  | x :: xs => match keyD x, keysD xs with
    | some k, some ks => some (k :: ks)
    | _, _ => none
/-- a list or a tuple of keys, as it is read -/
def Sq (K : PySem.W.Frag) (H : Hp) (v : V) (ks : List Key) : Prop := ∃ a, v = .ref a ∧ (SqL K H a (ks.map kV) ∨ SqT K H a (ks.map kV))
theorem keys_rep {K : PySem.W.Frag} {F : Hp} : ∀ {vs : List V} {xs : List PyData} {ks : List Key}, DrAll K F vs xs → keysD xs = some ks → vs = ks.map kV
  | _, _, ks, .nil, e => by cases e; rfl
  | v :: vs, x :: xs, ks, .cons h r, e => by
    unfold keysD at e
    cases q : keyD x with
    | none => simp only [q] at e; cases e
    | some k =>
      cases q2 : keysD xs with
      | none => simp only [q, q2] at e; cases e
      | some ks' =>
        simp only [q, q2] at e
        cases e
        rw [keys_rep r q2]
        cases h <;> cases q <;> rfl
section
variable {X : Cx}
theorem key_is (k : Key) {v : Value} (r : RelV (kV k) v) : keyIs k v = true ∧ v.scannable = true := by
  cases k with
  | inl i =>
    obtain ⟨t, rfl⟩ := (show ∃ t, v = Value.int i t from r)
    exact ⟨keyIs_int i t, rfl⟩
  | inr x =>
    obtain ⟨t, rfl⟩ := (show ∃ t, v = Value.str x t from r)
    exact ⟨keyIs_str x t, rfl⟩
def rSetOf (P : Program) (w : World) (K : PySem.W.Frag) : List V → Hp → VK → Prop := fun xs H Q => ∃ v ks, xs = [v] ∧ Sq K H v ks ∧ ks.length ≤ 4000 ∧ ∀ p, H p = none → Q (.ref p) (upd H p (SetK P w p (fun k => hasK (dd ks) k) (dd ks).length))
theorem call_set1 (hc : X.calm = true) : CallR X (.type "set") (rSetOf X.prog X.w X.K) := by
  intro pins s σ H xs us Q I r h
  obtain ⟨v, ks, rfl, ⟨a, rfl, hs⟩, h4, q⟩ := h
  obtain ⟨u, rfl, ru⟩ := vals1 r
  cases ru
  have hn := I.hok.fresh (Nat.le_refl s.heap.objs.size)
  have item : ∀ {its : List Value}, Vals (ks.map kV) its → ∀ (i : Nat) (v : Value), its.toArray[i]? = some v → ∃ k, ks[i]? = some k ∧ (mixKind X.prog X.w).is k v = true ∧ v.scannable = true := fun {its} rv i v e => by
    have e' : its[i]? = some v := by simpa using e
    have hi : i < ks.length := by
      have h1 := (List.getElem?_eq_some_iff.mp e').1
      have h2 := rv.length
      rw [List.length_map] at h2
      omega
    obtain ⟨u, e2, ru⟩ := rv.get (i := i) (x := kV ks[i]) (by rw [List.getElem?_map, List.getElem?_eq_getElem hi]; rfl)
    rw [e'] at e2
    cases e2
    exact ⟨ks[i], List.getElem?_eq_getElem hi, key_is _ ru⟩
  have done : ∀ (h' : Heap) (tk : Nat), h'.SetOf (mixKind X.prog X.w) s.heap.objs.size (fun k => hasK (dd ks) k) (dd ks).length → (∀ b o, b < s.heap.objs.size → s.heap.get? b = some o → h'.get? b = some o) →
      EP X pins σ Q (.ref s.heap.objs.size) { s with heap := h', toks := tk } := fun h' tk hS hk =>
    ⟨.ref s.heap.objs.size, _, I.laid (t' := tk) (fun b o e => hk b o (Heap.lt_size e) e) (Nat.le_refl _) (setK_new hS), rfl, q _ hn⟩
  have sz : ∀ {its : List Value}, Vals (ks.map kV) its → ks.length = its.toArray.size := fun {its} rv => by
    rw [List.size_toArray, ← rv.length, List.length_map]
  rcases hs with hs | hs
  · obtain ⟨its, rv, ⟨o, c, ho, h1, h2, h3⟩, _⟩ := I.list hs
    obtain ⟨ocls, odict, odata, oslots⟩ := o
    cases h1
    cases h3
    exact set_of (.inl rfl) (I.ok.hd hc) ho (sz rv) (by rw [← sz rv]; unfold scanBound; omega) (item rv) done
  · obtain ⟨its, rv, ⟨o, ho, h1, c, h3⟩, _⟩ := I.tuple hs
    obtain ⟨ocls, odict, odata, oslots⟩ := o
    cases h1
    cases h3
    exact set_of (.inr rfl) (I.ok.hd hc) ho (sz rv) (by rw [← sz rv]; unfold scanBound; omega) (item rv) done
def rLenSet (P : Program) (w : World) : List V → Hp → VK → Prop := fun xs H Q => ∃ a S n, xs = [.ref a] ∧ H a = some (SetK P w a S n) ∧ n ≤ 4000 ∧ Q (.int n) H
theorem call_lenSet : CallR X (.builtin "len") (rLenSet X.prog X.w) := by
  intro pins s σ H xs us Q I r h
  obtain ⟨a, S, n, rfl, ha, hn, q⟩ := h
  obtain ⟨u, rfl, ru⟩ := vals1 r
  cases ru
  obtain ⟨o, es, ep, t, ho, hex, hd, _, _, _, hf, hsz⟩ := setK_get I ha
  exact call_len_set ho hex hd hf (by rw [hsz]; omega) ⟨.int n, H, I.tok _, ⟨_, by rw [hsz]⟩, q⟩
end
/-- len(set(x)) -/
def lsG : PyData → Option EV
  | .list xs => match keysD xs with
    | some ks => if ks.length ≤ 4000 then some (iE (dd ks).length) else none
    | none => none
  | .tuple xs => match keysD xs with
    | some ks => if ks.length ≤ 4000 then some (iE (dd ks).length) else none
    | none => none
  | _ => none
abbrev lenSetE : DE → DE := RE1 (vUn lsG)
section
variable {K : PySem.W.Frag} {ca : Str → Addr} {W : WX}
theorem unv_lenSet {P : Program} {w : World} : UnV K ca W (fun v H Q => rSetOf P w K [v] H fun x H1 => rLenSet P w [x] H1 Q) lsG := by
  intro H0 env σ F H ρ F' H' ρ' S' v1 a ev Q n r e p
  have go : ∀ {xs : List PyData} {ks : List Key} {vs : List V} {b : Addr}, v1 = .ref b → keysD xs = some ks → DrAll K F' vs xs → (SqL K H' b vs ∨ SqT K H' b vs) → ks.length ≤ 4000 → ev = iE (dd ks).length → rSetOf P w K [v1] H' fun x H1 => rLenSet P w [x] H1 Q := fun {xs ks vs b} ev1 q1 d1 hq h4 ee => by
    subst ev1 ee
    have e := keys_rep d1 q1
    subst e
    refine ⟨_, ks, rfl, ⟨b, rfl, hq⟩, h4, fun pt hp => ⟨pt, _, _, rfl, upd_same, Nat.le_trans (dd_len ks) h4, ?_⟩⟩
    exact fin_d (n.newO hp) p (.int _)
  unfold lsG at e
  split at e
  · split at e
    · rename_i ks q1
      split at e
      · rename_i h4
        cases e
        obtain ⟨b, vs, e1, h1, d1⟩ := r
        exact go e1 q1 d1 (.inl (SqL.of h1)) h4 rfl
      · cases e
    · cases e
  · split at e
    · rename_i ks q1
      split at e
      · rename_i h4
        cases e
        cases r with
        | tup h1 d1 => exact go rfl q1 d1 (.inr (same_t n.sim.fz h1)) h4 rfl
      · cases e
    · cases e
  · cases e
end
section
variable {X : Cx} {ca : Str → Addr} {W : WX} {a : Expr} {fa : DE} {p p2 pos pos2 : Pos}
theorem je_lenSet (hc : X.calm = true) (hg : Gl X "len") (hm : X.mg "len" = none) (hg2 : Gl X "set") (hm2 : X.mg "set" = none) (h : JE X ca W a fa) (he : starEach [a] X.env = (false, eval a X.env) :: starEach [] X.env := by rfl)
    (he2 : starEach [.Call (.Name "set" p2) [a] [] pos2] X.env = (false, eval (.Call (.Name "set" p2) [a] [] pos2) X.env) :: starEach [] X.env := by rfl) : JE X ca W (.Call (.Name "len" p) [.Call (.Name "set" p2) [a] [] pos2] [] pos) (lenSetE fa) :=
  imp_e (pe_callB call_lenSet hg hm PySem.boot_len (pa_cons (pe_callTy (call_set1 hc) hg2 hm2 PyProof.Rows.boot_set (pa_cons h pa_nil he) (he := he)) pa_nil he2) (he := he2)) fun σ H Q h => te_un unv_lenSet.d h
end
end DL

set_option Elab.async false
set_option linter.all false
set_option maxRecDepth 100000
set_option maxHeartbeats 4000000
/-! DL13: dicts with text keys. -/
namespace DL
open PySem PySem.Spec PyProof.Rows L2

def lookD : List (PyData × PyData) → Str → Option PyData
  | [], _ => none
  | (.str k', d) :: r, k => if k' = k then some d else lookD r k
  | _ :: r, k => lookD r k
section
variable {K : PySem.W.Frag} {ca : Str → Addr} {W : WX} {H0 F H F' H' F1 H1 F2 H2 B : Hp} {ρ ρ' ρ1 ρ2 : List Addr} {S S' S1 S2 : Store} {env : Env} {σ : L2.St} {v : V} {ev : EV} {Q : VK}
theorem look_rep {k : Str} {ks : List (Key × V)} {xs : List (PyData × PyData)} (h : DrKv K F ks xs) : (∀ d, lookD xs k = some d → ∃ v, valV ks (.inr k) = some v ∧ Dr K F v d) ∧ (lookD xs k = none → valV ks (.inr k) = none) := by
  induction xs generalizing ks with
  | nil =>
    cases h
    exact ⟨fun d e => (by cases e), fun _ => rfl⟩
  | cons x xs ih =>
    cases h with
    | cons h r =>
    rename_i k' w d' ks
    obtain ⟨i1, i2⟩ := ih r
    by_cases e : k' = k
    · subst e
      refine ⟨fun d ed => ?_, fun en => ?_⟩
      · rw [lookD, if_pos rfl] at ed
        cases ed
        exact ⟨w, valV_pos rfl, h⟩
      · rw [lookD, if_pos rfl] at en
        cases en
    · have ne : ¬ ((Sum.inr k' : Key) = Sum.inr k) := fun z => e (Sum.inr.inj z)
      refine ⟨fun d ed => ?_, fun en => ?_⟩
      · rw [lookD, if_neg e] at ed
        rw [valV_neg (p := (Sum.inr k', w)) ne]
        exact i1 d ed
      · rw [lookD, if_neg e] at en
        rw [valV_neg (p := (Sum.inr k', w)) ne]
        exact i2 en
/-- an object of one's own, new since the start, is written -/
theorem Now.mutNew (n : Now K ca H0 env σ F H ρ F2 H2 ρ2 S2) (old : Old env σ H) {p : Addr} {o : HO} (hp : H p = none) (hF : F2 p = none) (hr : p ∉ ρ2) (hh : H2 p ≠ none ∨ True) : Now K ca H0 env σ F H ρ F2 (upd H2 p o) ρ2 S2 := by
  refine ⟨⟨n.stp.fz, n.stp.nfz, n.stp.rho, fun b u h1 h2 => ?_, fun b hb => ?_⟩, n.sim.of (Same.refl _) (fun b u hb => ?_) (fun b hb => ⟨n.sim.rfz b hb, fun u hu => ?_⟩) fun i ev b e1 e2 e3 => ⟨(n.sim.own_at e1 e2 e3).1, fun u hu => ?_⟩⟩
  · have : b ≠ p := fun z => by rw [z, hp] at h2; cases h2
    rw [upd_ne this]
    exact n.stp.fr b u h1 h2
  · by_cases z : b = p
    · rw [z]; exact hp
    · rw [upd_ne z] at hb
      exact n.stp.mono b hb
  · have : b ≠ p := fun z => by rw [z, hF] at hb; cases hb
    rw [upd_ne this]
    exact n.sim.fz _ _ hb
  · have : b ≠ p := fun z => hr (by rw [← z]; exact hb)
    rw [upd_ne this]
    exact hu
  · have : b ≠ p := fun z => old p hp i ev e1 e2 (by rw [← z]; exact e3)
    rw [upd_ne this]
    exact hu
end
/-! ### {k: e, ..} -/
def dictE (fs : List (Str × DE)) : DE := fun env S => (asL (fs.map (·.2)) env S).bind fun xs S1 => match allD xs with
  | some ds => .ok (.ownD ((fs.map fun p => PyData.str p.1).zip ds)) S1
  | none => .stuck
section
variable {K : PySem.W.Frag} {ca : Str → Addr} {W : WX} {Q : VK} {env : Env} {σ : L2.St} {H0 : Hp}
theorem tp_go : ∀ (fs : List (Str × DE)) {F H F1 H1 : Hp} {ρ ρ1 : List Addr} {S1 : Store} (n : Now K ca H0 env σ F H ρ F1 H1 ρ1 S1) (k : List EV → Store → RE) (p : PostE K ca W H0 env σ F H ρ Q ((asL (fs.map (·.2)) env S1).bind k)) (R : List (V × V) → Hp → Prop)
    (hk : ∀ xs S2 vs F2 H2 ρ2, asL (fs.map (·.2)) env S1 = .ok xs S2 → Now K ca H0 env σ F H ρ F2 H2 ρ2 S2 → Stp F1 H1 ρ1 F2 H2 ρ2 → Paired (fun v r => RepV K F2 ρ2 H1 H2 v r) vs xs → PostE K ca W H0 env σ F H ρ Q (k xs S2) → R ((fs.map fun p => V.str p.1).zip vs) H2),
    tPairs (fs.map fun p => (tC (.str p.1), dTE K ca W p.2)) σ H1 R
  | [], F, H, F1, H1, ρ, ρ1, S1, n, k, p, R, hk => hk [] S1 [] F1 H1 ρ1 rfl n (Stp.refl _ _ _) .nil p
  | (key, f) :: fs, F, H, F1, H1, ρ, ρ1, S1, n, k, p, R, hk => by
    show dTE K ca W f σ H1 fun y H2 => tPairs (fs.map fun p => (tC (.str p.1), dTE K ca W p.2)) σ H2 fun ps H3 => R ((V.str key, y) :: ps) H3
    refine ⟨H0, F1, ρ1, S1, env, n.sim, ?_⟩
    have p' : PostE K ca W H0 env σ F H ρ Q ((consA f (asL (fs.map (·.2))) env S1).bind k) := p
    have hk' := hk
    unfold consA at p'
    cases q : f env S1 with
    | raise e S2 =>
      simp only [q, RE.bindA, RA.bind] at p'
      exact fun cls d F2 H2 ρ2 n2 r => p' cls d F2 H2 ρ2 ⟨n.stp.trans n2.stp, n2.sim⟩ r
    | stuck =>
      simp only [q, RE.bindA, RA.bind] at p'
      exact p'
    | ok x S2 =>
      simp only [q, RE.bindA] at p'
      intro v F2 H2 ρ2 n2 r
      cases q2 : x.fixed with
      | none => simp only [q2, RA.bind] at p'; exact p'.elim
      | some x' =>
        simp only [q2] at p'
        obtain ⟨F3, n3, sm, r3⟩ := n2.fixed n.sim.old r q2
        have n4 : Now K ca H0 env σ F H ρ F3 H2 ρ2 S2 := ⟨n.stp.trans n3.stp, n3.sim⟩
        refine tp_go fs n4 (fun xs S3 => k (x' :: xs) S3) ?_ _ fun xs S3 vs F4 H4 ρ4 e n5 st5 rs p5 => ?_
        · cases q3 : asL (fs.map (·.2)) env S2 with
          | ok xs S3 => simp only [q3, RA.bindA, RA.bind] at p' ⊢; exact p'
          | raise e S3 => simp only [q3, RA.bindA, RA.bind] at p' ⊢; exact p'
          | stuck => simp only [q3, RA.bindA, RA.bind] at p' ⊢; exact p'
        · refine hk (x' :: xs) S3 (v :: vs) F4 H4 ρ4 ?_ n5 (n3.stp.trans st5) (.cons (r3.step st5) (Paired.mapP rs fun a b z => z.base n3.stp.mono)) p5
          show consA f (asL (fs.map (·.2))) env S1 = _
          unfold consA
          simp only [q, RE.bindA, q2, e, RA.bindA]
theorem merge_nd : ∀ (more acc : List (Key × V)), (more.map (·.1)).Nodup → (∀ k, k ∈ more.map (·.1) → k ∉ acc.map (·.1)) → mergeK acc more = acc ++ more
  | [], acc, _, _ => by simp [mergeK]
  | kv :: more, acc, nd, dj => by
    obtain ⟨n1, n2⟩ := List.nodup_cons.mp nd
    have h0 : kv.1 ∉ acc.map (·.1) := dj kv.1 (by simp)
    have e : putK acc kv.1 kv.2 = acc ++ [kv] := by
      unfold putK
      rw [if_neg]
      intro h
      obtain ⟨z, hz, e⟩ := List.any_eq_true.mp h
      exact h0 (List.mem_map.mpr ⟨z, hz, of_decide_eq_true e⟩)
    show mergeK (putK acc kv.1 kv.2) more = _
    rw [e, merge_nd more _ n2 fun k hk hk2 => ?_]
    · simp
    · rw [List.map_append, List.mem_append] at hk2
      rcases hk2 with h | h
      · exact dj k (by rw [List.map_cons]; exact List.mem_cons_of_mem _ hk) h
      · simp at h
        rw [h] at hk
        exact n1 hk
theorem kv_zip {F : Hp} : ∀ (ks : List Str) {vs : List V} {ds : List PyData}, DrAll K F vs ds → ks.length = ds.length → DrKv K F ((ks.map Sum.inr).zip vs) ((ks.map PyData.str).zip ds)
  | [], _, _, .nil, _ => .nil
  | [], _, _, .cons _ _, h => by simp at h
  | k :: ks, _, _, .nil, h => by simp at h
  | k :: ks, _, _, .cons h r, e => .cons h (kv_zip ks r (by simpa using e))
theorem te_dict {fs : List (Str × DE)} {σ : L2.St} {H : Hp} (nd : (fs.map (·.1)).Nodup) (hz : fs.length ≤ 15) (h : dTE K ca W (dictE fs) σ H Q) : tDisp (fs.map fun p => (tC (.str p.1), dTE K ca W p.2)) σ H Q := by
  obtain ⟨H0, F, ρ, S, env, s, p⟩ := h
  intro pt hp
  have n : Now K ca H0 env σ F H ρ F (upd H pt (.dK [])) ρ S := ⟨Stp.alloc hp, s.alloc hp⟩
  refine tp_go fs n _ p _ fun xs S2 vs F2 H2 ρ2 e n2 st2 rs p2 => ?_
  have hl := asL_len _ _ _ _ _ e
  rw [List.length_map] at hl
  have hF : F2 pt = none := st2.unfz (s.unfz hp) upd_same
  have hr : pt ∉ ρ2 := st2.notin (s.notin hp) upd_same
  have hd : H2 pt = some (.dK []) := st2.fr _ _ (s.notin hp) upd_same
  have hv := Paired.length rs
  refine ⟨hd, ((fs.map (·.1)).map Sum.inr).zip vs, ?_, ?_, ?_⟩
  · clear p2 rs e st2 n2 hd hr hF n p
    have : ∀ (ks : List Str) (vs : List V), (ks.map V.str).zip vs = (((ks.map Sum.inr : List Key)).zip vs).map fun kv => (kV kv.1, kv.2) := fun ks => by
      induction ks with
      | nil => intro vs; rfl
      | cons k ks ih =>
        intro vs
        cases vs with
        | nil => rfl
        | cons v vs =>
          simp only [List.map_cons, List.zip_cons_cons, ih vs, kV]
    rw [← this, List.map_map]
    rfl
  · rw [List.length_zip, List.length_map, List.length_map]
    omega
  · cases q : allD xs with
    | none => simp only [q] at p2; exact p2.elim
    | some ds =>
      simp only [q] at p2
      obtain ⟨h1, h2⟩ := allD_rep rs q
      have mk : mergeK [] (((fs.map (·.1)).map Sum.inr).zip vs) = ((fs.map (·.1)).map Sum.inr).zip vs := by
        rw [merge_nd _ [] ?_ (fun _ _ h => by simp at h)]
        · rfl
        · have : (((fs.map (·.1)).map (Sum.inr : Str → Key)).zip vs).map (·.1) = (fs.map (·.1)).map Sum.inr := by
            have hz : ∀ (a : List Key) (b : List V), a.length ≤ b.length → (a.zip b).map (·.1) = a := fun a => by
              induction a with
              | nil => intro b _; rfl
              | cons x a ih =>
                intro b hb
                cases b with
                | nil => simp at hb
                | cons y b =>
                  rw [List.zip_cons_cons, List.map_cons, ih b (by simpa using hb)]
            exact hz _ _ (by rw [List.length_map, List.length_map]; omega)
          rw [this]
          exact List.Pairwise.map Sum.inr (fun a b hab z => hab (Sum.inr.inj z)) nd
      rw [mk]
      refine p2 (.ref pt) F2 _ ρ2 (n2.mutNew s.old hp hF hr (.inr trivial)) ⟨pt, _, rfl, hp, upd_same, hF, hr, ?_⟩
      have := kv_zip (K := K) (F := F2) (fs.map (·.1)) h1 (by rw [List.length_map]; omega)
      rw [show fs.map (fun p => PyData.str p.1) = (fs.map (·.1)).map PyData.str by rw [List.map_map]; rfl]
      exact this
end
end DL

set_option Elab.async false
set_option linter.all false
set_option maxRecDepth 100000
set_option maxHeartbeats 4000000
/-! DL14: the rules of dicts with text keys. -/
namespace DL
open PySem PySem.Spec PyProof.Rows L2

abbrev JPs (X : Cx) (ca : Str → Addr) (W : WX) (pos : Pos) (keys : List (Option Expr)) (vals : List Expr) (fs : List (Str × DE)) : Prop := PPs X pos keys vals (fs.map fun p => (tC (.str p.1), dTE X.K ca W p.2))
/-- o.get(e, f) -/
def get2E (fo fe ff : DE) : DE := fun env S => (fo env S).bind fun x S1 => match x with
  | .d (.dict ks) => (fe env S1).bind fun y S2 => (ff env S2).bind fun z S3 => match y, z with
    | .d (.str k), .d dz => .ok (.d ((lookD ks k).getD dz)) S3
    | _, _ => .stuck
  | _ => .stuck
/-- o[e], a dict -/
def dixE (fo fe : DE) : DE := RE2 (fun x y S => match x, y with
  | .d (.dict ks), .d (.str k) => match lookD ks k with
    | some d => .ok (.d d) S
    | none => .stuck
  | _, _ => .stuck) fo fe
section
variable {X : Cx} {ca : Str → Addr} {W : WX}
theorem jp_nil {pos : Pos} : JPs X ca W pos [] [] [] := pps_nil
theorem jp_cons {pos p : Pos} {j} {k : Str} {v : Expr} {f : DE} {ks : List (Option Expr)} {vs : List Expr} {fs : List (Str × DE)} (h : JE X ca W v f) (r : JPs X ca W pos ks vs fs) : JPs X ca W pos (some (.Constant (.str k) j p) :: ks) (v :: vs) ((k, f) :: fs) := pps_cons pe_str h r
theorem je_dict {pos : Pos} {keys : List (Option Expr)} {vals : List Expr} {fs : List (Str × DE)} (h : JPs X ca W pos keys vals fs) (nd : (fs.map (·.1)).Nodup := by decide) (hz : fs.length ≤ 15 := by decide) (hall : keys.all (·.isSome) = true := by rfl) (hl : keys.length = vals.length := by rfl) (h0 : keys ≠ [] := by exact fun z => nomatch z) (h15 : keys.length ≤ 15 := by decide) :
    JE X ca W (.Dict keys vals pos) (dictE fs) := imp_e (pe_disp h hall hl h0 h15) fun σ H Q h => te_dict nd hz h
theorem rd_dct {K : PySem.W.Frag} {F H : Hp} {v : V} {xs : List (PyData × PyData)} (f : Same F H) (r : Dr K F v (.dict xs)) : ∃ a ks, v = .ref a ∧ H a = some (.dK ks) ∧ DrKv K F ks xs := by
  cases r with
  | dct h r => exact ⟨_, _, rfl, f _ _ h, r⟩
theorem je_dget2 {o e f : Expr} {fo fe ff : DE} {apos cpos : Pos} (hu : X.A.units + 1 < cLine) (ho : JE X ca W o fo) (he : JE X ca W e fe) (hf : JE X ca W f ff) (m : M2 X o "get" apos e f cpos := by exact ⟨rfl, rfl, rfl, rfl⟩) :
    JE X ca W (.Call (.Attribute o "get" apos) [e, f] [] cpos) (get2E fo fe ff) := imp_e (pe_dget2 hu ho he hf m) fun σ H Q h =>
  te1 (k := fun env x S1 => match x with
  | .d (.dict ks) => (fe env S1).bind fun y S2 => (ff env S2).bind fun z S3 => match y, z with
    | .d (.str k), .d dz => .ok (.d ((lookD ks k).getD dz)) S3
    | _, _ => .stuck
  | _ => .stuck) h fun H0 F ρ S env s x S1 v F1 H1 ρ1 n r p => by
    cases x with
    | d x =>
      cases x with
      | dict xs =>
        obtain ⟨a, ks, e1, e2, r2⟩ := rd_dct n.sim.fz r
        refine ⟨a, e1, .inl ⟨ks, .of e2⟩, ?_⟩
        refine te2 n p fun y S2 v2 F2 H2 ρ2 n2 st2 ry p2 => te2 n2 p2 fun z S3 v3 F3 H3 ρ3 n3 st3 rz p3 => ?_
        have r3 : Dr X.K F3 v (.dict xs) := Dr.mono (st2.fz.trans st3.fz) r
        have e4 : H3 a = some (.dK ks) := by
          obtain ⟨a', ks', q1, q2, q3⟩ := rd_dct n3.sim.fz r3
          cases r with
          | dct g1 g2 =>
            cases e1
            have := n.sim.fz _ _ g1
            rw [e2] at this
            cases this
            exact n3.sim.fz _ _ (st3.fz _ _ (st2.fz _ _ g1))
        have rk : DrKv X.K F3 ks xs := DrKv.mono (st2.fz.trans st3.fz) r2
        cases y with
        | d y =>
          cases y with
          | str k =>
            cases z with
            | d dz =>
              have ry' : Dr X.K F2 v2 (.str k) := ry
              cases ry'
              refine ⟨valV ks (.inr k), .inl ⟨ks, .inr k, .of e4, rfl, rfl⟩, ?_⟩
              obtain ⟨g1, g2⟩ := look_rep (k := k) rk
              cases q : lookD xs k with
              | none =>
                rw [g2 q]
                simp only [q, Option.getD_none] at p3
                exact fin_d n3 p3 rz
              | some d =>
                obtain ⟨w, h1, h2⟩ := g1 d q
                rw [h1]
                simp only [q, Option.getD_some] at p3
                exact fin_d n3 p3 h2
            | _ => exact p3.elim
          | _ => exact p3.elim
        | _ => exact p3.elim
      | _ => exact p.elim
    | _ => exact p.elim
theorem je_dix {o e : Expr} {fo fe : DE} {pos : Pos} (hu : X.A.units + 1 < cLine) (ho : JE X ca W o fo) (he : JE X ca W e fe) (hs : NoSl e := by exact fun _ _ => rfl) :
    JE X ca W (.Subscript o e pos) (dixE fo fe) := imp_e (pe_dget hu ho he hs) fun σ H Q h =>
  te1 (k := fun env x S1 => (fe env S1).bind fun y S2 => match x, y with
  | .d (.dict ks), .d (.str k) => match lookD ks k with
    | some d => .ok (.d d) S2
    | none => .stuck
  | _, _ => .stuck) h fun H0 F ρ S env s x S1 v F1 H1 ρ1 n r p => te2 n p fun y S2 v2 F2 H2 ρ2 n2 st2 ry p2 => by
    cases x with
    | d x =>
      cases x with
      | dict xs =>
        cases y with
        | d y =>
          cases y with
          | str k =>
            have r2 : Dr X.K F2 v (.dict xs) := Dr.mono st2.fz r
            obtain ⟨a, ks, e1, e2, rk⟩ := rd_dct n2.sim.fz r2
            have ry' : Dr X.K F2 v2 (.str k) := ry
            cases ry'
            obtain ⟨g1, g2⟩ := look_rep (k := k) rk
            cases q : lookD xs k with
            | none =>
              simp only [q] at p2
              exact p2.elim
            | some d =>
              obtain ⟨w, h1, h2⟩ := g1 d q
              simp only [q] at p2
              exact ⟨a, w, e1, .inl ⟨ks, .inr k, .of e2, rfl, h1.symm⟩, fin_d n2 p2 h2⟩
          | _ => exact p2.elim
        | _ => exact p2.elim
      | _ => exact p2.elim
    | _ => exact p2.elim
end
end DL

set_option Elab.async false
set_option linter.all false
set_option maxRecDepth 100000
set_option maxHeartbeats 4000000
/-! DL15: ranges as arguments; a law's end; facts of names. -/
namespace DL
open PySem PySem.Spec PyProof.Rows L2

/-! ### tuple(range(e)), list(range(e)) -/
def rgG (lst : Bool) : PyData → Option EV
  | .int n => if -(2 ^ 62) ≤ n ∧ n ≤ 16777216 then some (if lst then .own (rngL 0 n.toNat) else .d (.tuple (rngL 0 n.toNat))) else none
  | _ => none
abbrev tupRgE : DE → DE := RE1 (vUn (rgG false))
abbrev lstRgE : DE → DE := RE1 (vUn (rgG true))
section
variable {X : Cx} {ca : Str → Addr} {W : WX} {a : Expr} {fa : DE}
theorem rng_rep {F : Hp} {n : Int} : DrAll X.K F (rgV 0 n) (rngL 0 n.toNat) := by
  unfold rgV rngL
  rw [Int.sub_zero]
  have : ∀ l : List Nat, DrAll X.K F (l.map fun i => V.int (0 + (i : Nat))) (l.map fun i => PyData.int (0 + (i : Nat))) := fun l => by
    induction l with
    | nil => exact .nil
    | cons x l ih => exact .cons (.int _) ih
  exact this _
theorem rg_ok {n : Int} (h : -(2 ^ 62) ≤ n ∧ n ≤ 16777216) : RgOk 0 n := ⟨by omega, by omega, h.1, by omega, by omega⟩
theorem unv_rgT : UnV X.K ca W (fun v H Q => ∃ n, v = .int n ∧ RgOk 0 n ∧ ∀ q, H q = none → Q (.ref q) (upd H q (.tup (rgV 0 n)))) (rgG false) := by
  intro H0 env σ F H ρ F' H' ρ' S' v1 a ev Q n r e p
  unfold rgG at e
  split at e
  · split at e
    · rename_i h
      cases e
      cases r
      exact ⟨_, rfl, rg_ok h, fun q hq => fin_t n p (rng_rep (X := X)) hq⟩
    · cases e
  · cases e
theorem unv_rgL : UnV X.K ca W (fun v H Q => ∃ n, v = .int n ∧ RgOk 0 n ∧ ∀ q, H q = none → Q (.ref q) (upd H q (.lst (rgV 0 n)))) (rgG true) := by
  intro H0 env σ F H ρ F' H' ρ' S' v1 a ev Q n r e p
  unfold rgG at e
  split at e
  · split at e
    · rename_i h
      cases e
      cases r
      exact ⟨_, rfl, rg_ok h, fun q hq => fin_l n p (rng_rep (X := X)) hq⟩
    · cases e
  · cases e
theorem je_tupRg {p p2 pos pos2 : Pos} (hc : X.calm = true) (hg : Gl X "tuple") (hm : X.mg "tuple" = none) (hg2 : Gl X "range") (hm2 : X.mg "range" = none) (h : JE X ca W a fa) (na : starEach [a] X.env = (false, eval a X.env) :: starEach [] X.env := by rfl)
    (nb : starEach [.Call (.Name "range" p2) [a] [] pos2] X.env = (false, eval (.Call (.Name "range" p2) [a] [] pos2) X.env) :: starEach [] X.env := by rfl) : JE X ca W (.Call (.Name "tuple" p) [.Call (.Name "range" p2) [a] [] pos2] [] pos) (tupRgE fa) :=
  imp_e (pe_tupRg hc hg hm (prg_1 hg2 hm2 h na) nb) fun σ H Q h => te_mono (fun x H1 ⟨n, e, r, q⟩ => ⟨n, e, r, q⟩) (te_un (r := fun v H Q => ∃ n, v = .int n ∧ RgOk 0 n ∧ ∀ q, H q = none → Q (.ref q) (upd H q (.tup (rgV 0 n)))) (unv_rgT (X := X)).d h)
theorem je_lstRg {p p2 pos pos2 : Pos} (hc : X.calm = true) (hg : Gl X "list") (hm : X.mg "list" = none) (hg2 : Gl X "range") (hm2 : X.mg "range" = none) (h : JE X ca W a fa) (na : starEach [a] X.env = (false, eval a X.env) :: starEach [] X.env := by rfl)
    (nb : starEach [.Call (.Name "range" p2) [a] [] pos2] X.env = (false, eval (.Call (.Name "range" p2) [a] [] pos2) X.env) :: starEach [] X.env := by rfl) : JE X ca W (.Call (.Name "list" p) [.Call (.Name "range" p2) [a] [] pos2] [] pos) (lstRgE fa) :=
  imp_e (pe_listRg hc hg hm (prg_1 hg2 hm2 h na) nb) fun σ H Q h => te_mono (fun x H1 ⟨n, e, r, q⟩ => ⟨n, e, r, q⟩) (te_un (r := fun v H Q => ∃ n, v = .int n ∧ RgOk 0 n ∧ ∀ q, H q = none → Q (.ref q) (upd H q (.lst (rgV 0 n)))) (unv_rgL (X := X)).d h)
end

/-! ### a def that is stuck keeps every promise -/
theorem jf_stuck {P : Program} {w : World} {K : PySem.W.Frag} {mg : Str → Option Value} {base : Heap} {ca : Str → Addr} {k : Nat} {f : Addr} {fd : FuncData} {ps : List Str} : JF P w K mg base ca k f fd ps (fun _ _ => .stuck) :=
  ⟨fun vs H Q E h => h.1, fun A outer s H args us vs Q E hr he hb hv h => by
    obtain ⟨_, F, ρ, S, evs, _, _, p⟩ := h
    exact p.elim⟩
theorem room65 {k : Nat} {A : Around} (r : Room k A) : A.units + 65 < cLine := by have := r.un; omega
theorem room1 {k : Nat} {A : Around} (r : Room k A) : A.units + 1 < cLine := by have := r.un; omega

/-! ### names -/
/-- a def of the module -/
structure Own (K : PySem.W.Frag) (mg : Str → Option Value) (x : Str) (st : Stmt) where
  f : Addr
  fd : FuncData
  fn : FunD K x x (defArgs st) (defBody st) (defScope st) [] [] f fd
  gl : mg x = some (.ref f)
/-- a global name that stands for a datum -/
structure Cst (K : PySem.W.Frag) (mg : Str → Option Value) (x : Str) (d : PyData) where
  v : V
  u : Value
  gl : mg x = some u
  rel : RelV v u
  dr : ∀ F, Dr K F v d
/-- .. flat data -/
def litB (K : PySem.W.Frag) (x : Str) : PyData → Bool
  | .int i => (He.Fa.int x i).ok K
  | .str z => (He.Fa.str x z).ok K
  | .tuple ds => (He.Fa.glo x).ok K && match flatVs ds with
    | some vs => He.tupB K x vs
    | none => false
  | _ => false
where
  flatVs : List PyData → Option (List He.Dv)
    | [] => some []
    | .int i :: r => (flatVs r).map (He.Dv.int i :: ·)
    | .str i :: r => (flatVs r).map (He.Dv.str i :: ·)
    | _ :: _ => none
theorem flatVs_ok {K : PySem.W.Frag} {F : Hp} : ∀ {ds : List PyData} {vs : List He.Dv}, litB.flatVs ds = some vs → DrAll K F (vs.map (He.Dv.v K)) ds
  | [], vs, h => by
    cases h
    exact .nil
  | d :: r, vs, h => by
    cases d with
    | int i =>
      obtain ⟨ws, e, e2⟩ := Option.map_eq_some_iff.mp h
      subst e2
      exact .cons (.int _) (flatVs_ok e)
    | str i =>
      obtain ⟨ws, e, e2⟩ := Option.map_eq_some_iff.mp h
      subst e2
      exact .cons (.str _) (flatVs_ok e)
    | _ => cases h
theorem lit_ok {K : PySem.W.Frag} {h : Heap} {mg : Str → Option Value} (X : K.In h) (G : h.Ns mainGlobals mg) {x : Str} {d : PyData} (c : litB K x d = true) : Nonempty (Cst K mg x d) := by
  unfold litB at c
  split at c
  · obtain ⟨t, e⟩ := He.int_ok X G c
    exact ⟨⟨.int _, _, e, ⟨t, rfl⟩, fun F => .int _⟩⟩
  · obtain ⟨t, e⟩ := He.str_ok X G c
    exact ⟨⟨.str _, _, e, ⟨t, rfl⟩, fun F => .str _⟩⟩
  · obtain ⟨c1, c2⟩ := Bool.and_eq_true_iff.mp c
    split at c2
    · rename_i vs e
      exact ⟨⟨.ref (He.ga K x), _, He.glo_ok X G c1, rfl, fun F => .tup (He.tupB_ok c2 F) (flatVs_ok e)⟩⟩
    · cases c2
  · cases c
/-! ### the head's hook: a check of one's own and the defs -/
def obsP (pr : PySem.W.Frag → Bool) (fn : List He.DefD) (K : PySem.W.Frag) : He.AlD := (pr K && fn.all fun d => d.ok K, fn.map fun d => He.fnW K d.at_)
def SaysP (pr : PySem.W.Frag → Bool) (fn : List He.DefD) (K : PySem.W.Frag) : Prop := obsP pr fn K = He.valD fn
def obsPG (n : Nat) (pr : PySem.W.Frag → Bool) (fn : List He.DefD) (g : Addr → Option Obj) : He.AlD := obsP pr fn (He.frG g (He.asD g n))
def hookP (n : Nat) (pr : PySem.W.Frag → Bool) (fn : List He.DefD) : PySem.W.Hook where
  α := He.AlD
  obs := fun s => obsPG n pr fn s.heap.get?
  val := fun _ => He.valD fn
  says := fun _ h => ∃ K : PySem.W.Frag, K.In h ∧ SaysP pr fn K
  of := fun _ _ e => ⟨_, He.frG_in, e⟩
  keeps := fun _ _ _ ⟨K, hK, c⟩ k => ⟨K, PySem.W.Frag.In.keeps hK k, c⟩
theorem obsPG_eq {n : Nat} {pr : PySem.W.Frag → Bool} {fn : List He.DefD} {g : Addr → Option Obj} {s : Shared} (h : ∀ a, g a = s.heap.get? a) : obsPG n pr fn g = (hookP n pr fn).obs s := by
  have e : g = s.heap.get? := funext h
  rw [e] <;> rfl
section
variable {pr : PySem.W.Frag → Bool} {fn : List He.DefD} {K : PySem.W.Frag}
theorem SaysP.chk (c : SaysP pr fn K) : pr K = true := (Bool.and_eq_true_iff.mp (show (pr K && fn.all fun d => d.ok K) = true from congrArg (fun z : He.AlD => z.1) c)).1
theorem SaysP.def_ (c : SaysP pr fn K) (i : Nat) {d : He.DefD} (h : fn[i]? = some d := by rfl) : ∃ fd, FunD K d.name d.qual d.params d.body d.scope (d.dvs K) (d.kws K) (He.fAd K d.at_) fd := by
  have c2 := (Bool.and_eq_true_iff.mp (show (pr K && fn.all fun d => d.ok K) = true from congrArg (fun z : He.AlD => z.1) c)).2
  have e : fn.map (fun d => He.fnW K d.at_) = fn.map He.DefD.val := congrArg (fun z : He.AlD => z.2) c
  have e2 : (fn.map fun d => He.fnW K d.at_)[i]? = (fn.map He.DefD.val)[i]? := by rw [e]
  rw [List.getElem?_map, List.getElem?_map, h] at e2
  exact He.DefD.funD (Option.some.inj e2) (List.all_eq_true.mp c2 d (List.mem_of_getElem? h))
end
/-! ### the end -/
/-- what a law lets out, whatever the world -/
def CXw (P : Program) : CXT := fun outer H s E u s' => ∃ w, L2.CX P w outer H s E u s'
theorem cxw_no {P : Program} (H : Hp) (s : Shared) (e : Value) (s' : Shared) (h : CXw P [] H s (fun _ _ _ => False) e s') : False := by
  obtain ⟨w, a, B, H', cls, d, _, _, _, _, _, _, _, z⟩ := h
  exact z
theorem jf_w {P : Program} {w : World} {K : PySem.W.Frag} {mg : Str → Option Value} {base : Heap} {ca : Str → Addr} {k : Nat} {f : Addr} {fd : FuncData} {ps : List Str} {Ff : DF} (j : JF P w K mg base ca k f fd ps Ff) : FnOk P w K mg base (CXw P) k f fd ps (spD K ca ps.length Ff) :=
  ⟨j.len, fun A outer s H args us vs Q E hr he hb hv h => codeAny_mono (j.run A outer s H args us vs Q E hr he hb hv h) fun r s' => by
    cases r with
    | ok r => cases r <;> exact fun z => z
    | error e => exact fun z => ⟨w, z⟩⟩
/-- the law's own promise: from what its def reckons on a script -/
theorem sp_law {K : PySem.W.Frag} {ca : Str → Addr} {Ff : DF} (h : ∀ ns : List Int, ns.length ≤ 63 → ∃ S', Ff [.scr ns] [] = .ok (.d (.bool true)) S') (H : Hp) (a : Addr) (ns : List Int) (hl : ns.length ≤ 63) (hs : SqL K H a (ns.map V.int)) :
    spD K ca 1 Ff [.ref a] H (fun v _ => v = .bl true) fun _ _ _ => False := by
  obtain ⟨S', e⟩ := h ns hl
  refine ⟨rfl, H, [], [], [.scr ns], ⟨Same.refl _, rfl, List.nodup_nil, fun _ h => (by cases h), fun l b c h => (by simp at h), rfl, fun i ev h => (by simp at h), fun i j ei ej b h => (by simp at h)⟩, .cons ⟨⟨a, rfl, hs⟩, rfl⟩ .nil, ?_⟩
  rw [e]
  intro v F' H' ρ' st s r
  cases r
  rfl
end DL

set_option Elab.async false
set_option linter.all false
set_option maxRecDepth 100000
set_option maxHeartbeats 4000000
/-! DL16: the reckoning of denotations: rewriting, loops. -/
namespace DL
open PySem PySem.Spec PyProof.Rows L2

section
variable {S S' : Store} {v : EV} {vs : List EV} {e : Exc} {env env' : Env} {b : Bool} {x y : PyData}
@[simp] theorem RE.bind_ok {k} : (RE.ok v S).bind k = k v S := rfl
@[simp] theorem RE.bind_raise {k} : (RE.raise e S).bind k = .raise e S := rfl
@[simp] theorem RE.bind_stuck {k} : RE.stuck.bind k = .stuck := rfl
@[simp] theorem RE.bindA_ok {k} : (RE.ok v S).bindA k = k v S := rfl
@[simp] theorem RE.bindA_raise {k} : (RE.raise e S).bindA k = .raise e S := rfl
@[simp] theorem RE.bindA_stuck {k} : RE.stuck.bindA k = .stuck := rfl
@[simp] theorem RA.bind_ok {k} : (RA.ok vs S).bind k = k vs S := rfl
@[simp] theorem RA.bind_raise {k} : (RA.raise e S).bind k = .raise e S := rfl
@[simp] theorem RA.bind_stuck {k} : RA.stuck.bind k = .stuck := rfl
@[simp] theorem RA.bindA_ok {k} : (RA.ok vs S).bindA k = k vs S := rfl
@[simp] theorem RA.bindA_raise {k} : (RA.raise e S).bindA k = .raise e S := rfl
@[simp] theorem RA.bindA_stuck {k} : RA.stuck.bindA k = .stuck := rfl
@[simp] theorem RE.bindS_ok {k} : (RE.ok v S).bindS env k = k v S := rfl
@[simp] theorem RE.bindS_raise {k} : (RE.raise e S).bindS env k = .raise e env S := rfl
@[simp] theorem RE.bindS_stuck {k} : RE.stuck.bindS env k = .stuck := rfl
@[simp] theorem RE.bindB_ok {k} : (RE.ok (.d (.bool b)) S).bindB k = k b S := rfl
@[simp] theorem RE.bindB_raise {k} : (RE.raise e S).bindB k = .raise e S := rfl
@[simp] theorem RE.bindB_stuck {k} : RE.stuck.bindB k = .stuck := rfl
@[simp] theorem RE.bindBS_ok {k} : (RE.ok (.d (.bool b)) S).bindBS env k = k b S := rfl
@[simp] theorem RE.bindBS_raise {k} : (RE.raise e S).bindBS env k = .raise e env S := rfl
@[simp] theorem RE.bindBS_stuck {k} : RE.stuck.bindBS env k = .stuck := rfl
@[simp] theorem RS.bind_next {k} : (RS.next env S).bind k = k env S := rfl
@[simp] theorem RS.bind_ret {k} : (RS.ret v S).bind k = .ret v S := rfl
@[simp] theorem RS.bind_raise {k} : (RS.raise e env S).bind k = .raise e env S := rfl
@[simp] theorem RS.bind_brk {k} : (RS.brk env S).bind k = .brk env S := rfl
@[simp] theorem RS.bind_cont {k} : (RS.cont env S).bind k = .cont env S := rfl
@[simp] theorem RS.bind_stuck {k} : RS.stuck.bind k = .stuck := rfl
@[simp] theorem endF_next : endF (.next env S) = .ok (.d .none) S := rfl
@[simp] theorem endF_ret : endF (.ret v S) = .ok v S := rfl
@[simp] theorem endF_raise : endF (.raise e env S) = .raise e S := rfl
@[simp] theorem bE_d : bE b = .d (.bool b) := rfl
@[simp] theorem iE_d {i : Int} : iE i = .d (.int i) := rfl
@[simp] theorem seqS_ap {g1 g2 : DS} : seqS g1 g2 env S = (g1 env S).bind g2 := rfl
@[simp] theorem nopS_ap : nopS env S = .next env S := rfl
@[simp] theorem retS_ap {f : DE} : retS f env S = (f env S).bindS env fun x S1 => .ret x.moved S1 := rfl
@[simp] theorem retN_ap : retN env S = .ret (.d .none) S := rfl
@[simp] theorem exprS_ap {f : DE} : exprS f env S = (f env S).bindS env fun _ S1 => .next env S1 := rfl
@[simp] theorem ifS_ap {t : DE} {a c : DS} : ifS t a c env S = (t env S).bindBS env fun k S1 => if k = true then a env S1 else c env S1 := rfl
@[simp] theorem asgF_ap {f : DE} {i : Nat} : asgF i f env S = (f env S).bindS env fun x S1 => match x.fixed with
  | some ev => .next (env.set i (some ev)) S1
  | none => .stuck := rfl
@[simp] theorem asgO_ap {f : DE} {i : Nat} : asgO i f env S = (f env S).bindS env fun x S1 => match x.kept with
  | some ev => .next (env.set i (some ev)) S1
  | none => .stuck := rfl
@[simp] theorem asgG_ap {t : DG} {f : DE} : asgG t f env S = (f env S).bindS env fun x S1 => match x.fixed with
  | some ev => match t ev env with
    | some env' => .next env' S1
    | none => .stuck
  | none => .stuck := rfl
@[simp] theorem parO_ap {i j : Nat} {f g : DE} : parO i j f g env S = (f env S).bindS env fun x S1 => (g env S1).bindS env fun y S2 => match x.kept, y.kept with
  | some a, some b => if i ≠ j then .next ((env.set i (some a)).set j (some b)) S2 else .stuck
  | _, _ => .stuck := rfl
@[simp] theorem frzS_ap {i : Nat} {g : DS} : frzS i g env S = g (env.frz i) S := rfl
@[simp] theorem fixed_d : (EV.d x).fixed = some (.d x) := rfl
@[simp] theorem fixed_ownL {xs : List PyData} : (EV.own xs).fixed = some (.d (.list xs)) := rfl
@[simp] theorem fixed_bor {xs : List PyData} : (EV.bor xs).fixed = none := rfl
@[simp] theorem fixed_ref {l : Nat} : (EV.ref l).fixed = some (.ref l) := rfl
@[simp] theorem fixed_scr {ns : List Int} : (EV.scr ns).fixed = some (.scr ns) := rfl
@[simp] theorem fixed_opq {w : V} : (EV.opq w).fixed = some (.opq w) := rfl
@[simp] theorem fixed_fn {x : Str} : (EV.fn x).fixed = some (.fn x) := rfl
@[simp] theorem fixed_ownD {ks} : (EV.ownD ks).fixed = some (.d (.dict ks)) := rfl
@[simp] theorem kept_d : (EV.d x).kept = some (.d x) := rfl
@[simp] theorem kept_own {xs : List PyData} : (EV.own xs).kept = some (.own xs) := rfl
@[simp] theorem kept_ref {l : Nat} : (EV.ref l).kept = some (.ref l) := rfl
@[simp] theorem kept_scr {ns : List Int} : (EV.scr ns).kept = some (.scr ns) := rfl
@[simp] theorem kept_opq {w : V} : (EV.opq w).kept = some (.opq w) := rfl
@[simp] theorem kept_fn {x : Str} : (EV.fn x).kept = some (.fn x) := rfl
@[simp] theorem kept_ownD {ks} : (EV.ownD ks).kept = some (.ownD ks) := rfl
@[simp] theorem moved_d : (EV.d x).moved = .d x := rfl
@[simp] theorem moved_own {xs : List PyData} : (EV.own xs).moved = .own xs := rfl
@[simp] theorem moved_bor {xs : List PyData} : (EV.bor xs).moved = .own xs := rfl
@[simp] theorem moved_ref {l : Nat} : (EV.ref l).moved = .ref l := rfl
@[simp] theorem moved_scr {ns : List Int} : (EV.scr ns).moved = .scr ns := rfl
@[simp] theorem moved_opq {w : V} : (EV.opq w).moved = .opq w := rfl
@[simp] theorem moved_fn {x : Str} : (EV.fn x).moved = .fn x := rfl
@[simp] theorem moved_ownD {ks} : (EV.ownD ks).moved = .ownD ks := rfl
@[simp] theorem read_d : (EV.d x).read = .d x := rfl
@[simp] theorem read_own {xs : List PyData} : (EV.own xs).read = .bor xs := rfl
@[simp] theorem read_ref {l : Nat} : (EV.ref l).read = .ref l := rfl
@[simp] theorem read_scr {ns : List Int} : (EV.scr ns).read = .scr ns := rfl
@[simp] theorem read_opq {w : V} : (EV.opq w).read = .opq w := rfl
@[simp] theorem read_fn {x : Str} : (EV.fn x).read = .fn x := rfl
@[simp] theorem read_ownD {ks} : (EV.ownD ks).read = .borD ks := rfl
@[simp] theorem view_d : (EV.d x).view S = some x := rfl
@[simp] theorem view_own {xs : List PyData} : (EV.own xs).view S = some (.list xs) := rfl
@[simp] theorem view_bor {xs : List PyData} : (EV.bor xs).view S = some (.list xs) := rfl
theorem view_ref {l : Nat} {xs : List PyData} (h : S[l]? = some (.lst xs)) : (EV.ref l).view S = some (.list xs) := by unfold EV.view; simp only [h]
@[simp] theorem cE_ap : cE x env S = .ok (.d x) S := rfl
@[simp] theorem cO_ap {w : V} : cO w env S = .ok (.opq w) S := rfl
@[simp] theorem rdE_ap {i : Nat} : rdE i env S = match env[i]? with
  | some (some ev) => .ok ev.read S
  | _ => .stuck := by unfold rdE; cases env[i]? with
  | none => rfl
  | some o => cases o <;> rfl
@[simp] theorem RE2_ap {k} {fa fb : DE} : RE2 k fa fb env S = (fa env S).bind fun x S1 => (fb env S1).bind fun y S2 => k x y S2 := rfl
@[simp] theorem RE1_ap {k} {fa : DE} : RE1 k fa env S = (fa env S).bind k := rfl
@[simp] theorem toRE_some : toRE S (some v) = .ok v S := rfl
@[simp] theorem toRE_none : toRE S none = .stuck := rfl
@[simp] theorem vOp_ap {g} {a c : EV} : vOp g a c S = match a.view S, c.view S with
  | some a, some b => toRE S (g a b)
  | _, _ => .stuck := rfl
@[simp] theorem vUn_ap {g} {a : EV} : vUn g a S = match a.view S with
  | some a => toRE S (g a)
  | none => .stuck := rfl
@[simp] theorem andE_ap {fa fb : DE} : andE fa fb env S = (fa env S).bindB fun k S1 => if k = true then fb env S1 else .ok (bE false) S1 := rfl
@[simp] theorem orE_ap {fa fb : DE} : orE fa fb env S = (fa env S).bindB fun k S1 => if k = true then .ok (bE true) S1 else fb env S1 := rfl
@[simp] theorem notE_ap {fa : DE} : notE fa env S = (fa env S).bindB fun k S1 => .ok (bE (!k)) S1 := rfl
@[simp] theorem ifE_ap {ft fa fb : DE} : ifE ft fa fb env S = (ft env S).bindB fun k S1 => if k = true then fa env S1 else fb env S1 := rfl
@[simp] theorem asL_nil : asL [] env S = .ok [] S := rfl
@[simp] theorem asL_cons {f : DE} {fs : List DE} : asL (f :: fs) env S = (f env S).bindA fun x S1 => match x.fixed with
  | some x' => (asL fs env S1).bindA fun xs S2 => .ok (x' :: xs) S2
  | none => .stuck := by
  show consA f (asL fs) env S = _
  unfold consA
  rfl
@[simp] theorem allD_nil : allD [] = some [] := rfl
@[simp] theorem allD_cons {xs : List EV} : allD (.d x :: xs) = (allD xs).map (x :: ·) := by
  conv => lhs; unfold allD
  cases h : allD xs <;> simp [EV.dat, h]
@[simp] theorem tupE_ap {fs : List DE} : tupE fs env S = (asL fs env S).bind fun xs S1 => match allD xs with
  | some ds => .ok (.d (.tuple ds)) S1
  | none => .stuck := rfl
@[simp] theorem lstE_ap {fs : List DE} : lstE fs env S = (asL fs env S).bind fun xs S1 => match allD xs with
  | some ds => .ok (.own ds) S1
  | none => .stuck := rfl
@[simp] theorem dictE_ap {fs : List (Str × DE)} : dictE fs env S = (asL (fs.map (·.2)) env S).bind fun xs S1 => match allD xs with
  | some ds => .ok (.ownD ((fs.map fun p => PyData.str p.1).zip ds)) S1
  | none => .stuck := rfl
@[simp] theorem callE_ap {F : DF} {as : DA} : callE F as env S = (as env S).bind F := rfl
@[simp] theorem refE_ap {f : DE} : refE f env S = (f env S).bind fun x S1 => match x with
  | .own xs => .ok (.ref S1.length) (S1 ++ [.lst xs])
  | _ => .stuck := rfl
@[simp] theorem chE_ap {g g'} {fa fb fc : DE} : chE g g' fa fb fc env S = (fa env S).bind fun x S1 => (fb env S1).bind fun y S2 => (vOp g x y S2).bindB fun k S3 => if k = true then (fc env S3).bind fun z S4 => vOp g' y z S4 else .ok (bE false) S3 := rfl
@[simp] theorem slE_ap {f : DE} {lo hi : Option DE} : slE f lo hi env S = (f env S).bind fun x S1 => (partE lo env S1).bind fun l S2 => (partE hi env S2).bind fun u S3 => kSl x l u S3 := rfl
@[simp] theorem partE_none : partE none env S = .ok (.d .none) S := rfl
@[simp] theorem partE_some {f : DE} : partE (some f) env S = (f env S).bind fun v S1 => match v with
    | .d (.int i) => .ok (.d (.int i)) S1
    | _ => .stuck := rfl
@[simp] theorem kSl_ap {a l u : EV} : kSl a l u S = match a.view S, evOpt l, evOpt u with
  | some a, some lo, some hi => toRE S (slG a lo hi)
  | _, _, _ => .stuck := rfl
@[simp] theorem evOpt_none : evOpt (.d .none) = some none := rfl
@[simp] theorem evOpt_int {i : Int} : evOpt (.d (.int i)) = some (some i) := rfl
@[simp] theorem itE_ap {f : DE} : itE f env S = (f env S).bind fun x S1 => match x.fixed with
  | some (.d y) => match itemsG y with
    | some xs => .ok (.d (.list xs)) S1
    | none => .stuck
  | _ => .stuck := by
  unfold itE
  rfl
@[simp] theorem itemsG_list {xs : List PyData} : itemsG (.list xs) = some xs := rfl
@[simp] theorem itemsG_tuple {xs : List PyData} : itemsG (.tuple xs) = some xs := rfl
@[simp] theorem forS_ap {f : DE} {t : DG} {g : DS} : forS f t g env S = (f env S).bindS env fun x S1 => match x with
  | .d (.list xs) => forD t g xs env S1
  | _ => .stuck := rfl
@[simp] theorem lcE_ap {f : DE} {is : List Nat} {t : DG} {test : Option DE} {elt : DE} : lcE f is t test elt env S = (f env S).bind fun x S1 => match x with
  | .d (.list xs) => lcD t test elt (wipeE env is) xs [] S1
  | _ => .stuck := rfl
@[simp] theorem wipeE_nil : wipeE env [] = env := rfl
@[simp] theorem wipeE_cons {i : Nat} {is : List Nat} : wipeE env (i :: is) = (wipeE env is).set i none := rfl
@[simp] theorem tgN_ap {i : Nat} : tgN i v env = some (env.set i (some v)) := rfl
@[simp] theorem tgT_ap {is : List Nat} {ds : List PyData} : tgT is (.d (.tuple ds)) env = setAll is ds env := rfl
@[simp] theorem tgL_ap {is : List Nat} {ds : List PyData} : tgL is (.d (.list ds)) env = setAll is ds env := rfl
@[simp] theorem setAll_nil : setAll [] [] env = some env := rfl
@[simp] theorem setAll_cons {i : Nat} {is : List Nat} {ds : List PyData} : setAll (i :: is) (x :: ds) env = setAll is ds (env.set i (some (.d x))) := rfl
@[simp] theorem tstD_none : tstD none env S = .ok (bE true) S := rfl
@[simp] theorem tstD_some {f : DE} : tstD (some f) env S = f env S := rfl
@[simp] theorem kIx_d {a c : PyData} : kIx (.d a) (.d c) S = toRE S (ixG a c) := rfl
@[simp] theorem kIx_bor {xs : List PyData} {c : PyData} : kIx (.bor xs) (.d c) S = toRE S (ixG (.list xs) c) := rfl
@[simp] theorem kIx_own {xs : List PyData} {c : PyData} : kIx (.own xs) (.d c) S = toRE S (ixG (.list xs) c) := rfl
theorem kIx_ref {l : Nat} {xs : List PyData} {c : PyData} (h : S[l]? = some (.lst xs)) : kIx (.ref l) (.d c) S = toRE S (ixG (.list xs) c) := by
  show vOp ixG (.ref l) (.d c) S = _
  rw [vOp_ap, view_ref h]
  rfl
@[simp] theorem kIx_scr {ns : List Int} {i : Int} : kIx (.scr ns) (.d (.int i)) S = match atI ns i with
    | some n => .ok (.d (.int n)) S
    | none => .stuck := rfl
@[simp] theorem kLen_d {a : PyData} : kLen (.d a) S = toRE S (lenG a) := rfl
@[simp] theorem kLen_bor {xs : List PyData} : kLen (.bor xs) S = .ok (.d (.int xs.length)) S := rfl
@[simp] theorem kLen_own {xs : List PyData} : kLen (.own xs) S = .ok (.d (.int xs.length)) S := rfl
@[simp] theorem kLen_scr {ns : List Int} : kLen (.scr ns) S = .ok (.d (.int ns.length)) S := rfl
@[simp] theorem lenG_list {xs : List PyData} : lenG (.list xs) = some (.d (.int xs.length)) := rfl
@[simp] theorem lenG_tuple {xs : List PyData} : lenG (.tuple xs) = some (.d (.int xs.length)) := rfl
theorem lenG_str {z : Str} (h : z.length ≤ 1000) : lenG (.str z) = some (.d (.int z.length)) := by
  unfold lenG
  simp only
  rw [if_pos (by unfold LIM; omega)]
  rfl
@[simp] theorem subG_int {i j : Int} : subG (.int i) (.int j) = some (.d (.int (i - j))) := rfl
@[simp] theorem ltG_int {i j : Int} : ltG (.int i) (.int j) = some (.d (.bool (decide (i < j)))) := rfl
@[simp] theorem leG_int {i j : Int} : leG (.int i) (.int j) = some (.d (.bool (decide (i ≤ j)))) := rfl
@[simp] theorem gtG_int {i j : Int} : gtG (.int i) (.int j) = some (.d (.bool (decide (j < i)))) := rfl
@[simp] theorem geG_int {i j : Int} : geG (.int i) (.int j) = some (.d (.bool (decide (j ≤ i)))) := rfl
@[simp] theorem addG_int {i j : Int} : addG (.int i) (.int j) = some (.d (.int (i + j))) := rfl
theorem addG_list {xs ys : List PyData} (h : xs.length + ys.length ≤ 100000) : addG (.list xs) (.list ys) = some (.own (xs ++ ys)) := by
  unfold addG
  simp only
  rw [if_pos (by unfold LIM; omega)]
theorem addG_tuple {xs ys : List PyData} (h : xs.length + ys.length ≤ 100000) : addG (.tuple xs) (.tuple ys) = some (.d (.tuple (xs ++ ys))) := by
  unfold addG
  simp only
  rw [if_pos (by unfold LIM; omega)]
@[simp] theorem modG_int {i j : Int} : modG (.int i) (.int j) = if 0 < j then some (.d (.int (i % j))) else none := rfl
@[simp] theorem divG_int {i j : Int} : divG (.int i) (.int j) = if 0 < j ∧ j < 1073741824 then some (.d (.int (i / j))) else none := rfl
@[simp] theorem mulG_int {i j : Int} : mulG (.int i) (.int j) = if (-(2 ^ 64) < i ∧ i < 2 ^ 64) ∨ (-(2 ^ 64) < j ∧ j < 2 ^ 64) then some (.d (.int (i * j))) else none := rfl
@[simp] theorem intG_int {i : Int} : intG (.int i) = some (.d (.int i)) := rfl
@[simp] theorem intG_bool : intG (.bool b) = some (.d (.int (if b then 1 else 0))) := rfl
@[simp] theorem tupG_list {xs : List PyData} : tupG (.list xs) = some (.d (.tuple xs)) := rfl
@[simp] theorem tupG_tuple {xs : List PyData} : tupG (.tuple xs) = some (.d (.tuple xs)) := rfl
@[simp] theorem listG_list {xs : List PyData} : listG (.list xs) = some (.own xs) := rfl
@[simp] theorem listG_tuple {xs : List PyData} : listG (.tuple xs) = some (.own xs) := rfl
@[simp] theorem slG_list {xs : List PyData} {lo hi : Option Int} : slG (.list xs) lo hi = some (.own (cutD xs lo hi)) := rfl
@[simp] theorem slG_tuple {xs : List PyData} {lo hi : Option Int} : slG (.tuple xs) lo hi = some (.d (.tuple (cutD xs lo hi))) := rfl
@[simp] theorem minG_int {i j : Int} : minG (.int i) (.int j) = some (.d (.int (if j < i then j else i))) := rfl
@[simp] theorem maxG_int {i j : Int} : maxG (.int i) (.int j) = some (.d (.int (if j > i then j else i))) := rfl
@[simp] theorem isiG_ap {T : String} : isiG T x = some (.d (.bool (tyD x == T || (tyD x == "bool" && T == "int")))) := rfl
@[simp] theorem tyD_none : tyD .none = "NoneType" := rfl
@[simp] theorem tyD_bool : tyD (.bool b) = "bool" := rfl
@[simp] theorem tyD_int {i : Int} : tyD (.int i) = "int" := rfl
@[simp] theorem tyD_str {z : Str} : tyD (.str z) = "str" := rfl
@[simp] theorem tyD_list {xs : List PyData} : tyD (.list xs) = "list" := rfl
@[simp] theorem tyD_tuple {xs : List PyData} : tyD (.tuple xs) = "tuple" := rfl
@[simp] theorem tyD_dict {xs} : tyD (.dict xs) = "dict" := rfl
@[simp] theorem negG_int {i : Int} : negG (.int i) = some (.d (.int (-i))) := rfl
@[simp] theorem ixG_list {xs : List PyData} {i : Int} : ixG (.list xs) (.int i) = (atI xs i).map .d := rfl
@[simp] theorem ixG_tuple {xs : List PyData} {i : Int} : ixG (.tuple xs) (.int i) = (atI xs i).map .d := rfl
/-- comparisons of flat data -/
theorem canLay_shaped {a : PyData} (h : a.canLay0 = true) (hd : a.depth ≤ 64) : SeqAt.shaped a = true := by
  unfold SeqAt.shaped
  rw [h, decide_eq_true hd]
  rfl
@[simp] theorem shaped_none : SeqAt.shaped .none = true := by decide
@[simp] theorem shaped_int {i : Int} : SeqAt.shaped (.int i) = true := by
  refine canLay_shaped ?_ ?_ <;> simp [PyData.canLay0, PyData.depth]
@[simp] theorem shaped_bool : SeqAt.shaped (.bool b) = true := by
  refine canLay_shaped ?_ ?_ <;> simp [PyData.canLay0, PyData.depth]
@[simp] theorem eqG_int {i j : Int} : eqG (.int i) (.int j) = some (.d (.bool (i == j))) := by
  unfold eqG
  simp [PyData.eqv]
@[simp] theorem neG_int {i j : Int} : neG (.int i) (.int j) = some (.d (.bool (i != j))) := by
  unfold neG
  simp [PyData.eqv, bne]
theorem eqG_sh {a c : PyData} (h : SeqAt.shaped a = true) (h2 : SeqAt.shaped c = true) : eqG a c = some (.d (.bool (PyData.eqv a c))) := by
  unfold eqG
  rw [if_pos ⟨h, h2⟩]
  rfl
theorem neG_sh {a c : PyData} (h : SeqAt.shaped a = true) (h2 : SeqAt.shaped c = true) : neG a c = some (.d (.bool (!PyData.eqv a c))) := by
  unfold neG
  rw [if_pos ⟨h, h2⟩]
  rfl
theorem inG_list {neg : Bool} {a : PyData} {ds : List PyData} (h : SeqAt.shaped a = true) (h2 : SeqAt.shaped (.list ds) = true) : inG neg a (.list ds) = some (.d (.bool (if neg then !(ds.any fun z => PyData.eqv z a) else ds.any fun z => PyData.eqv z a))) := by
  unfold inG
  simp only
  rw [if_pos ⟨h, h2⟩]
  rfl
theorem inG_tup {neg : Bool} {a : PyData} {ds : List PyData} (h : flatD a = true) (h2 : ds.all flatD = true) : inG neg a (.tuple ds) = some (.d (.bool (if neg then !(ds.any fun z => PyData.eqv z a) else ds.any fun z => PyData.eqv z a))) := by
  unfold inG
  simp only
  rw [if_pos ⟨h, h2⟩]
  rfl
@[simp] theorem atI_zero {α : Type} {x : α} {xs : List α} : atI (x :: xs) 0 = some x := by
  unfold atI ixN
  simp
theorem ixN_nat {n k : Nat} (h : k < n) : ixN n (k : Int) = some k := by
  unfold ixN
  have h1 : ((k : Int) < (n : Int)) := by omega
  simp [h1]
theorem atI_nat {α : Type} {xs : List α} {k : Nat} (h : k < xs.length) : atI xs (k : Int) = some xs[k] := by
  unfold atI
  rw [ixN_nat h]
  simp [h]
@[simp] theorem atI_one {α : Type} {x y : α} {xs : List α} : atI (x :: y :: xs) 1 = some y := by
  have := atI_nat (xs := x :: y :: xs) (k := 1) (by simp)
  simpa using this
end
/-! ### loops -/
/-- a for that turns over all its items -/
theorem forD_inv {α : Type} {t : DG} {g : DS} (R : α → Env → Store → Prop) (step : α → PyData → α) : ∀ (xs : List PyData), (∀ a env S d, d ∈ xs → R a env S → ∃ env1, t (.d d) env = some env1 ∧ ∃ env2 S2, (g env1 S = .next env2 S2 ∨ g env1 S = .cont env2 S2) ∧ R (step a d) env2 S2) →
    ∀ a env S, R a env S → ∃ env' S', forD t g xs env S = .next env' S' ∧ R (xs.foldl step a) env' S'
  | [], _, a, env, S, r => ⟨env, S, rfl, r⟩
  | d :: ds, h, a, env, S, r => by
    obtain ⟨env1, e1, env2, S2, e2, r2⟩ := h a env S d List.mem_cons_self r
    obtain ⟨env', S', e3, r3⟩ := forD_inv R step ds (fun a env S d hd => h a env S d (List.mem_cons_of_mem _ hd)) _ env2 S2 r2
    refine ⟨env', S', ?_, r3⟩
    unfold forD
    simp only [e1]
    rcases e2 with e2 | e2
    · simp only [e2]; exact e3
    · simp only [e2]; exact e3
/-- a for, in general: what holds of what is left -/
theorem forD_hoare {t : DG} {g : DS} (I : List PyData → Env → Store → Prop) (Post : RS → Prop) (hnil : ∀ env S, I [] env S → Post (.next env S))
    (hcons : ∀ d ds env S, I (d :: ds) env S → ∃ env1, t (.d d) env = some env1 ∧ match g env1 S with
      | .next e s => I ds e s
      | .cont e s => I ds e s
      | .brk e s => Post (.next e s)
      | .ret v s => Post (.ret v s)
      | .raise x e s => Post (.raise x e s)
      | .stuck => False) : ∀ xs env S, I xs env S → Post (forD t g xs env S)
  | [], env, S, h => hnil env S h
  | d :: ds, env, S, h => by
    obtain ⟨env1, e1, h2⟩ := hcons d ds env S h
    unfold forD
    simp only [e1]
    revert h2
    cases q : g env1 S with
    | next e s => exact fun h2 => forD_hoare I Post hnil hcons ds e s h2
    | cont e s => exact fun h2 => forD_hoare I Post hnil hcons ds e s h2
    | brk e s => exact fun h2 => h2
    | ret v s => exact fun h2 => h2
    | raise x e s => exact fun h2 => h2
    | stuck => exact fun h2 => h2.elim
/-- a comprehension: each item's test and element are reckoned, the store stays -/
theorem lcD_pure {t : DG} {test : Option DE} {elt : DE} {env : Env} {S : Store} {p : PyData → Bool} {f : PyData → PyData} : ∀ (xs acc : List PyData), (∀ d, d ∈ xs → ∃ env1, t (.d d) env = some env1 ∧ tstD test env1 S = .ok (.d (.bool (p d))) S ∧ (p d = true → ∃ v, elt env1 S = .ok v S ∧ v.fixed = some (.d (f d)))) →
    acc.length + xs.length ≤ 100000 → lcD t test elt env xs acc S = .ok (.own (acc ++ (xs.filter p).map f)) S
  | [], acc, _, _ => by simp [lcD]
  | d :: ds, acc, h, hl => by
    obtain ⟨env1, e1, e2, e3⟩ := h d List.mem_cons_self
    have hl' : acc.length + (ds.length + 1) ≤ 100000 := hl
    unfold lcD
    simp only [e1, e2]
    cases q : p d with
    | false =>
      simp only
      rw [lcD_pure ds acc (fun d hd => h d (List.mem_cons_of_mem _ hd)) (by omega), List.filter_cons_of_neg (by simp [q])]
    | true =>
      obtain ⟨v, e4, e5⟩ := e3 q
      simp only [e4, e5]
      rw [if_pos (by unfold LIM; omega), lcD_pure ds _ (fun d hd => h d (List.mem_cons_of_mem _ hd)) (by simp; omega), List.filter_cons_of_pos q]
      simp
/-- .. in general -/
theorem lcD_hoare {t : DG} {test : Option DE} {elt : DE} {env : Env} (I : List PyData → List PyData → Store → Prop) (Post : RE → Prop) (hnil : ∀ acc S, I [] acc S → Post (.ok (.own acc) S))
    (hcons : ∀ d ds acc S, I (d :: ds) acc S → ∃ env1, t (.d d) env = some env1 ∧ ∃ b S1, tstD test env1 S = .ok (.d (.bool b)) S1 ∧ (b = false → I ds acc S1) ∧ (b = true → acc.length < 100000 ∧ ∃ v y S2, elt env1 S1 = .ok v S2 ∧ v.fixed = some (.d y) ∧ I ds (acc ++ [y]) S2)) :
    ∀ xs acc S, I xs acc S → Post (lcD t test elt env xs acc S)
  | [], acc, S, h => hnil acc S h
  | d :: ds, acc, S, h => by
    obtain ⟨env1, e1, b, S1, e2, h0, h1⟩ := hcons d ds acc S h
    unfold lcD
    simp only [e1, e2]
    cases b with
    | false =>
      simp only
      exact lcD_hoare I Post hnil hcons ds acc S1 (h0 rfl)
    | true =>
      obtain ⟨hl, v, y, S2, e3, e4, h2⟩ := h1 rfl
      simp only [e3, e4]
      rw [if_pos (by unfold LIM; omega)]
      exact lcD_hoare I Post hnil hcons ds _ S2 h2
end DL

set_option Elab.async false
set_option linter.all false
set_option maxRecDepth 100000
set_option maxHeartbeats 4000000
/-! DL17: exceptions of one's own: raise, try .. except. -/
namespace DL
open PySem PySem.Spec PyProof.Rows L2

/-- an exception class of the module -/
structure ExcN (K : PySem.W.Frag) (mg : Str → Option Value) (ca : Str → Addr) (x : Str) : Prop where
  gl : mg x = some (.ref (ca x))
  ex : PySem.W.excIn K (ca x) He.veBase "ValueError.__new__" = true
  kp : PySem.W.keepIn K (.ref (ca x)) = true
  sub : PySem.W.subIn K (.ref (ca x)) (.type "BaseException") = some true
  ty : PySem.W.typeIn K (.ref (ca x)) = some (.type "type")
theorem excN_of {K : PySem.W.Frag} {h : Heap} {mg : Str → Option Value} (X : K.In h) (G : h.Ns mainGlobals mg) {x : Str} (c1 : (He.Fa.glo x).ok K = true) (c2 : (He.Fa.exc x).ok K = true) : ExcN K mg (He.ga K) x := by
  obtain ⟨a, b, c, d⟩ := He.exc_ok c2
  exact ⟨He.glo_ok X G c1, a, b, c, d⟩
def raiseS (x : Str) : DS := fun env S => .raise ⟨x, none⟩ env S
theorem js_raise {X : Cx} {ca : Str → Addr} {W : WX} {x m : Str} {j : Nat} {p p2 pos pos2 : Pos} (N : ExcN X.K X.mg ca x) (hc : X.calm = true) (tk : Takes X W) (hg : Gl X x) (hdb : (x == ("__debug__" : Str)) = false := by decide) :
    JS X ca W (.Raise (some (.Call (.Name x p) [.Constant (.str m) j p2] [] pos)) none pos2) (raiseS x) := fun z =>
  imp_s (ps_raise hc tk (pmk_own PySem.F.excBase_ValueError N.ex N.gl N.kp (raises_own N.sub N.ty) hg hdb)) fun D σ H ⟨F, ρ, S, env, s, p⟩ =>
    p (.ref (ca x)) none σ F H ρ (Same.refl _) s ⟨rfl, rfl⟩
/-- which class lies under which: the program's own all lie beside one another under ArrangeError -/
def exSub (x y : Str) : Bool := x == y || (("ArrangeError" : Str) == y || ("ValueError" : Str) == y)
def runH (e : Exc) (env : Env) (S : Store) : List (Str × DS) → RS
  | [] => .raise e env S
  | (y, g) :: hs => if exSub e.cls y = true then g env S else runH e env S hs
def tryS (known : List Str) (body : DS) (hs : List (Str × DS)) : DS := fun env S => match body env S with
  | .raise e env' S' => if known.contains e.cls = true then runH e env' S' hs else .stuck
  | r => r
/-- the clauses, one after the other -/
inductive JHs (X : Cx) (ca : Str → Addr) (W : WX) : List ExceptHandler → List (Str × DS) → Prop
  | nil : JHs X ca W [] []
  | cons {x : Str} {b : Stmt} {suite : List Stmt} {np pos : Pos} {g : DS} {hds : List ExceptHandler} {l : List (Str × DS)} (hg : Gl X x) (hm : X.mg x = some (.ref (ca x))) (hdb : (x == ("__debug__" : Str)) = false)
      (hs : ∀ (a : Addr) (pn : List (Addr × Obj)), JSs (X.suite a pn) ca W (b :: suite) g) (r : JHs X ca W hds l) : JHs X ca W (.ExceptHandler (some (.Name x np)) none (b :: suite) pos :: hds) ((x, g) :: l)
theorem JHs.ok {X : Cx} {ca : Str → Addr} {W : WX} (z : Ses) : ∀ {hds : List ExceptHandler} {l : List (Str × DS)}, JHs X ca W hds l → HdsOk X hds (l.map fun p => (Value.ref (ca p.1), fun _ _ _ => dTS X.K ca W z p.2))
  | _, _, .nil => .nil
  | _, _, .cons hg hm hdb hs r => .cons ⟨hg, hdb, .inl hm⟩ (fun a oe cls d pn _ _ => hs a _ z) (r.ok z)
theorem run_many {K : PySem.W.Frag} {ca : Str → Addr} {W : WX} {z : Ses} {D : Ends} {F H : Hp} {ρ : List Addr} {S : Store} {env : Env} {σ : L2.St} {e : Exc} {cls : Value} {d : Option Addr} (s : SimS K ca z F ρ S env σ H) (er : ExcRep K ca F H cls d e) : ∀ {hs : List (Str × DS)}, (∀ y, y ∈ hs.map (·.1) → PySem.W.exmOne K (.ref (ca e.cls)) (.ref (ca y)) = some (exSub e.cls y)) →
    PostS K ca W z F D (runH e env S hs) → wMany K W D (hs.map fun p => (Value.ref (ca p.1), fun _ _ _ => dTS K ca W z p.2)) cls d σ H
  | [], _, p => p cls d σ F H ρ (Same.refl _) s er
  | (y, g) :: hs, hx, p => by
    have hy := hx y List.mem_cons_self
    have e1 : cls = .ref (ca e.cls) := er.1
    refine ⟨exSub e.cls y, by rw [e1]; exact hy, fun hb a _ => ?_, fun hb => ?_⟩
    · unfold runH at p
      rw [if_pos hb] at p
      exact ⟨F, ρ, S, env, s, p⟩
    · unfold runH at p
      rw [hb, if_neg Bool.false_ne_true] at p
      exact run_many s er (fun y hy => hx y (List.mem_cons_of_mem _ hy)) p
theorem js_try {X : Cx} {ca : Str → Addr} {W : WX} {body : List Stmt} {h0 : ExceptHandler} {hds : List ExceptHandler} {l : List (Str × DS)} {g : DS} {known : List Str} {pos : Pos} (hs : X.stack = X.env :: X.outer) (hf : X.env.frame = some X.env.locals) (tk : Takes X W)
    (hx : ∀ x, x ∈ known → ∀ y, y ∈ l.map (·.1) → PySem.W.exmOne X.K (.ref (ca x)) (.ref (ca y)) = some (exSub x y))
    (hb : ∀ (W' : WX) (pn : List (Addr × Obj)) (xe : Value → Shared → Prop), Takes (X.tr pn xe) W' → PassesOwn (model X.prog X.w) X.A X.env xe → JSs (X.tr pn xe) ca W' body g) (hh : JHs X ca W (h0 :: hds) l) :
    JS X ca W (.Try body (h0 :: hds) [] [] pos) (tryS known g l) := fun z =>
  imp_s (ps_try_many hs hf tk (tb := fun W' => dTS X.K ca W' z g) (fun W' pn xe t o => hb W' pn xe t o z) (hh.ok z)) fun D σ H ⟨F, ρ, S, env, s, p⟩ => by
    refine ⟨F, ρ, S, env, s, ?_⟩
    unfold tryS at p
    revert p
    cases q : g env S with
    | raise e env' S' =>
      intro p
      simp only at p
      by_cases hk : known.contains e.cls = true
      · rw [if_pos hk] at p
        exact fun cls d σ' F' H' ρ' f s' er => run_many s' er (hx e.cls (by simpa using hk)) (p.mono f)
      · rw [if_neg hk] at p
        exact p.elim
    | next env' S' => exact fun p => p
    | ret v S' => exact fun p => p
    | brk env' S' => exact fun p => p
    | cont env' S' => exact fun p => p
    | stuck => exact fun p => p
end DL

set_option Elab.async false
set_option linter.all false
set_option maxRecDepth 100000
set_option maxHeartbeats 4000000
/-! DL18: enumerate over a list, a tuple. -/
namespace DL
open PySem PySem.Spec PyProof.Rows L2

/-! ### enumerate(v), one argument, v told by its iterator -/
theorem meets_enum1 {v : Value} {o : Obj} {G : Heap → Prop} (B : Begins v o G) :
    Meets (Builtin.«enumerate.__new__» ⟨[.type "enumerate", v], []⟩) (fun _ R s => G s.heap ∧
      R (.ok (.ret (.ref (s.heap.push o).objs.size))) { s with heap := (s.heap.push o).push { cls := .type "enumerate", data := .fields #[.none, .bool false, .ref s.heap.objs.size, rawInt 0, .none, .none] } }) :=
  .of_wp fun prog w A R st hst => by
    obtain ⟨hp, gs, dr, tk, os⟩ := st
    obtain ⟨hG, hst⟩ := hst
    have hsub := sub_enumerate
    have it : ∀ {A' : Around} {E : Value → Shared → Prop} {Q : Value → Shared → Prop}, Q (.ref hp.objs.size) ⟨hp.push o, gs, dr, tk, os⟩ → wpAny (model prog w) A' (pyIter v) Q E ⟨hp, gs, dr, tk, os⟩ :=
      fun z => B.iter prog w _ _ ⟨hp, gs, dr, tk, os⟩ _ hG z
    wp_walk using it
    refine wpAny_stack_any fun _ => wpAny_pure ?_
    split
    · rename_i c _ _ _ _ _
      cases (c == Value.type "enumerate") <;> (wp_walk using it; exact ⟨_, rfl, hst⟩)
    · wp_walk using it
      exact ⟨_, rfl, hst⟩
theorem enum_new1 {prog : Program} {w : World} {A : Around} {E : Value → Shared → Prop} {s : Shared} {v : Value} {o : Obj} {G : Heap → Prop} {Q : Value → Shared → Prop} (B : Begins v o G) (hG : G s.heap)
    (h : ∀ h', IsEnum h' (s.heap.objs.size + 1) s.heap.objs.size 0 .none → h'.get? s.heap.objs.size = some o → (∀ b u, s.heap.get? b = some u → h'.get? b = some u) → Q (.ref (s.heap.objs.size + 1)) { s with heap := h' }) :
    wpAny (model prog w) A (call (.type "enumerate") [v]) Q E s := by
  refine callType_new F.called_enumerate (by decide) (F.typeCall_enumerate_1 _) (F.newCall_enumerate_1 _) (fun obj => F.args_object_init_2 obj _) F.entry_enumerate_new (meets_enum1 B) ⟨hG, ?_⟩
  have hz : (s.heap.push o).objs.size = s.heap.objs.size + 1 := Heap.size_push ..
  show _ ∧ _
  rw [hz]
  have at1 : IsEnum ((s.heap.push o).push { cls := .type "enumerate", data := .fields #[.none, .bool false, .ref s.heap.objs.size, rawInt 0, .none, .none] }) (s.heap.objs.size + 1) s.heap.objs.size 0 .none := by
    rw [← hz]
    exact Heap.get?_push_size (s.heap.push o) rfl
  exact ⟨⟨_, at1, rfl⟩, h _ at1 (Heap.get?_push_of_some _ (Heap.get?_push_size _ B.free)) fun b u e => Heap.get?_push_of_some _ (Heap.get?_push_of_some _ e)⟩
theorem next_end {prog : Program} {w : World} {A : Around} {E : Value → Shared → Prop} {s : Shared} {e it t : Addr} {i : Nat} {k : Int} {items : Array Value} {old : Value} {Q : Option Value → Shared → Prop} (hh : A.handled = none)
    (he : IsEnum s.heap e it k old) (hit : s.heap.IsTupleIter it t i) (ht : s.heap.IsTuple t items) (hx : items[i]? = none) (hQ : ∀ h', Heap.ExtBut it s.heap h' → Q none { s with heap := h' }) : wpAny (model prog w) A (pyNext (.ref e)) Q E s := by
  have hT : s.TypeIs (.ref e) "enumerate" := ⟨_, he, rfl⟩
  unfold pyNext
  refine wpAny_bind (wpAny_attempt (wpAny_callSpecial?_slot (name := Str.ofString "__next__") hT F.slot_enumerate_next (wpAny_call_entry F.slot_enumerate_next hT F.entry_enumerate_next ?_ (F.args_enumerate_next_1 _))))
  show wpAny _ _ (field (.ref e) 2 >>= _) _ _ _
  refine wpAny_bind (wpAny_field he rfl (x := .ref it) rfl (wpAny_bind (wpAny_nextOf_tuple_end hh hit ht hx fun h' x k1 k2 => ?_)))
  obtain ⟨o, ho, hc⟩ := k2
  exact wpAny_bind (wpAny_isInstance (T := "StopIteration") (b := true) ⟨o, ho, hc⟩ isSubtype_stop (wpAny_pure (hQ _ k1)))
/-! ### the turns -/
def Iett (K : PySem.W.Frag) (a : Addr) : It :=
  ⟨fun i H => ∃ (xs : List V) (x : V), SqT K H a xs ∧ xs[i]? = some x, fun i H v H' => ∃ T x, v = .ref T ∧ H T = none ∧ H' = upd H T (.tup [.int (i : Nat), x]) ∧ ∀ xs, SqT K H a xs → xs[i]? = some x, fun i H => ∃ xs : List V, SqT K H a xs ∧ xs.length ≤ i⟩
theorem turn_enumT {P : Program} {w : World} {K : PySem.W.Frag} {elts : List Expr} {kk : Nat} {tpos : Pos} (a e it : Addr) :
    Turn P w K (.Tuple elts kk tpos) (Iett K a) [e, it] e (fun i h => (∃ old, IsEnum h e it ((i : Nat) : Int) old) ∧ h.IsTupleIter it a i ∧ (e ≠ it ∧ a ≠ it ∧ a ≠ e)) where
  mem := by simp
  obj := fun i h st b hb => by
    obtain ⟨⟨old, he⟩, ⟨o, ho, hc, hd⟩, _⟩ := st
    rcases (by simpa using hb : b = e ∨ b = it) with rfl | rfl
    · exact ⟨_, he, fun v q => nomatch q⟩
    · exact ⟨o, ho, fun v q => by rw [hd] at q; cases q⟩
  keep := fun i h h' st k => ⟨⟨st.1.choose, k e (by simp) _ st.1.choose_spec⟩, st.2.1.at fun o q => k it (by simp) o q, st.2.2⟩
  item := by
    intro X hP hw hK hc i pins s σ H E I hf st hg
    subst hP hw hK
    obtain ⟨⟨old, he⟩, hit, hne, hai, hae⟩ := st
    obtain ⟨xs, x, hq, hx⟩ := hg
    obtain ⟨its, rv, tp, hz⟩ := I.tuple hq
    obtain ⟨u, hu, ru⟩ := rv.get hx
    have hlt : i < its.toArray.size := by
      have := (List.getElem?_eq_some_iff.mp hu).1
      simpa using this
    have hel : e < s.heap.objs.size := Heap.lt_size he
    have hil : it < s.heap.objs.size := by obtain ⟨_, q, _⟩ := hit; exact Heap.lt_size q
    have D := Draws.tuple (prog := X.prog) (w := X.w) (A := X.A.in1) (by first | exact I.ok.hd hc | (show X.A.in1.handled = none; exact I.ok.hd hc)) it a hai its.toArray
    refine wpAny_pyNext_enum_itemD D he ⟨hit, tp⟩ hlt hne (by simp [hne, Ne.symm hae]) fun y h' tk hy ho st' hT hsz hk => ?_
    have ey : y = u := by
      have h2 : its.toArray[i]? = some u := by simpa using hu
      rw [h2] at hy
      exact (Option.some.inj hy).symm
    subst ey
    refine ⟨_, rfl, wpAny_letOwnedTupleGo_enum (s := { s with heap := h', toks := tk + 1 }) ho fun h2 he' sb => ?_⟩
    have hT2 : h2.get? s.heap.objs.size = some { cls := .type "tuple", data := .seq #[.int i tk, y] } := (sb.2 _ (Nat.ne_of_gt hel)).trans hT
    have new : ObjOk X.prog X.w (upd H s.heap.objs.size (.tup [.int (i : Nat), x])) h2 s.heap.objs.size (.tup [.int (i : Nat), x]) :=
      ⟨by show 2 ≤ sizeLine; decide, [.int i tk, y], .cons ⟨_, rfl⟩ (.cons ru .nil), ⟨_, hT2, rfl, _, rfl⟩⟩
    have I1 : Inv X pins σ (upd H s.heap.objs.size (.tup [.int (i : Nat), x])) { s with heap := h2, toks := tk + 1 } :=
      I.turnedNew (ch := [e, it]) (fun b ob hb q => (sb.2 b fun z => hb (by rw [z]; simp)).trans (hk b ob (fun z => hb (by rw [z]; simp)) (fun z => hb (by rw [z]; simp)) q)) hf (Nat.le_refl _) new
    refine ⟨.ref s.heap.objs.size, _, I1, rfl, ⟨_, x, rfl, I.hok.fresh (Nat.le_refl _), rfl, fun ys hy => by rw [I.tuple_inj hy hq]; exact hx⟩, ⟨⟨y, ?_⟩, st'.1.at fun o q => (sb.2 it (Ne.symm hne)).trans q, hne, hai, hae⟩, fun b hb => ?_⟩
    · rw [show ((i + 1 : Nat) : Int) = (i : Int) + 1 by omega]
      exact he'
    · have hb' : b < s.heap.objs.size := by
        rcases (by simpa using hb : b = e ∨ b = it) with rfl | rfl
        · exact hel
        · exact hil
      rw [upd_ne (Nat.ne_of_lt hb')]
      exact (hf b hb).1
  done := by
    intro X hP hw hK hc i pins s σ H E I hf st hg
    subst hP hw hK
    obtain ⟨⟨old, he⟩, hit, hne, hai, hae⟩ := st
    obtain ⟨xs, hq, hx⟩ := hg
    obtain ⟨its, rv, tp, hz⟩ := I.tuple hq
    obtain ⟨f0, f1, f2, f3, f4, f5⟩ := hf it (by simp)
    have hl := rv.length
    exact next_end (I.ok.hd hc) he hit tp (by simp; omega) fun h' eb => ⟨rfl, I.turned (t' := s.toks) (fun b o hb q => eb b o hb q) f0 f1 f3 f4 f5⟩
  self := fun A i s Q E st h => wpAny_pyIter_enum st.1.choose_spec h
/-! ### enumerate(e) -/
def iEnumA (K : PySem.W.Frag) (tl : TE) : TI := fun σ H R => tl σ H fun x H1 => (∃ a, x = .ref a ∧ (∃ xs, SqL K H1 a xs) ∧ R (Ite K a) H1) ∨ ∃ a, x = .ref a ∧ (∃ xs, SqT K H1 a xs) ∧ R (Iett K a) H1
def oneV (f : V → Hp → Prop) : List V → Hp → Prop
  | [x], H => f x H
  | _, _ => False
theorem oneV_at {f : V → Hp → Prop} : ∀ {vs : List V} {H : Hp}, oneV f vs H → ∃ x, vs = [x] ∧ f x H
  | [x], _, h => ⟨x, rfl, h⟩
  | [], _, h => h.elim
  | _ :: _ :: _, _, h => h.elim
theorem isTuple_lt {h : Heap} {a : Addr} {its : Array Value} (p : h.IsTuple a its) : a < h.objs.size := by
  obtain ⟨o, e, _⟩ := p
  exact Heap.lt_size e
theorem fp2 {X : Cx} {pins : List (Addr × Obj)} {σ : L2.St} {H : Hp} {s : Shared} (I : Inv X pins σ H s) : ∀ b ∈ [s.heap.objs.size + 1, s.heap.objs.size], FpOk X pins H b := fun b hb => by
  have hle : s.heap.objs.size ≤ b := by
    rcases (by simpa using hb : b = s.heap.objs.size + 1 ∨ b = s.heap.objs.size) with z | z
    · rw [z]; exact Nat.le_add_right _ _
    · rw [z]; exact Nat.le_refl _
  exact I.fpOk hle (I.hok.fresh hle)
theorem pi_enumA {X : Cx} {e : Expr} {tl : TE} {p pos tpos : Pos} {elts : List Expr} {kk : Nat} (hg : Gl X "enumerate") (hm : X.mg "enumerate" = none) (he : PE X e tl) (hs : starEach [e] X.env = [(false, eval e X.env)] := by rfl) :
    PI X (.Tuple elts kk tpos) (.Call (.Name "enumerate" p) [e] [] pos) (iEnumA X.K tl) := by
  refine ⟨fun pins s σ H R I h => ?_⟩
  have ha : PA X [e] (tCons tl tNil) := pa_cons he pa_nil (by rw [hs]; rfl)
  refine Call_ (ld_blt I hg hm boot_enumerate (PyProof.Rows.callWith_type1 (thn (ha.run pos pins s σ H (oneV fun x H1 => (∃ a, x = .ref a ∧ (∃ xs, SqL X.K H1 a xs) ∧ R (Ite X.K a) H1) ∨ ∃ a, x = .ref a ∧ (∃ xs, SqT X.K H1 a xs) ∧ R (Iett X.K a) H1) I h) fun us s1 ⟨vs, H1, I1, r1, q1⟩ => ?_) hs rfl))
  obtain ⟨x, ex, q1⟩ := oneV_at q1
  subst ex
  cases r1 with
  | cons r rr =>
    cases rr
    rcases q1 with ⟨a, rfl, ⟨xs, hq⟩, q⟩ | ⟨a, rfl, ⟨xs, hq⟩, q⟩
    · cases r
      obtain ⟨its, rv, lp, hz⟩ := I1.list hq
      refine call_enumerate_list lp.isList fun h' h1 h2 h3 hk => wpAny_pyIter_enum h1 ?_
      exact ⟨s1.heap.objs.size + 1, [s1.heap.objs.size + 1, s1.heap.objs.size], _, _, H1, rfl, I1.kept (t' := s1.toks) hk, turn_enum a (s1.heap.objs.size + 1) s1.heap.objs.size, ⟨⟨.none, h1⟩, h2, Nat.succ_ne_self _⟩, fp2 I1, q⟩
    · cases r
      obtain ⟨its, rv, tp, hz⟩ := I1.tuple hq
      have hlt := isTuple_lt (show s1.heap.IsTuple a its.toArray from tp)
      refine enum_new1 (begins_tuple a its.toArray) tp fun h' h1 h2 hk => wpAny_pyIter_enum h1 ?_
      exact ⟨s1.heap.objs.size + 1, [s1.heap.objs.size + 1, s1.heap.objs.size], _, _, H1, rfl, I1.kept (t' := s1.toks) hk, turn_enumT a (s1.heap.objs.size + 1) s1.heap.objs.size, ⟨⟨.none, h1⟩, ⟨_, h2, rfl, rfl⟩, Nat.succ_ne_self _, Nat.ne_of_lt hlt, Nat.ne_of_lt (Nat.lt_succ_of_lt hlt)⟩, fp2 I1, q⟩
/-- the pairs of enumerate -/
def enumL : Nat → List PyData → List PyData
  | _, [] => []
  | n, x :: xs => .tuple [.int (n : Nat), x] :: enumL (n + 1) xs
theorem enumL_get : ∀ (n : Nat) (xs : List PyData) (i : Nat), (enumL n xs)[i]? = (xs[i]?).map fun x => .tuple [.int ((n + i : Nat) : Int), x]
  | n, [], i => by simp [enumL]
  | n, x :: xs, 0 => by simp [enumL]
  | n, x :: xs, i + 1 => by
    simp only [enumL, List.getElem?_cons_succ]
    rw [enumL_get (n + 1) xs i, show n + 1 + i = n + (i + 1) by omega]
theorem enumL_len : ∀ (n : Nat) (xs : List PyData), (enumL n xs).length = xs.length
  | _, [] => rfl
  | n, x :: xs => by simp [enumL, enumL_len (n + 1) xs]
def enumE (f : DE) : DE := fun env S => (f env S).bind fun x S1 => match x.fixed with
  | some (.d (.list xs)) => .ok (.d (.list (enumL 0 xs))) S1
  | some (.d (.tuple xs)) => .ok (.d (.list (enumL 0 xs))) S1
  | _ => .stuck
section
variable {K : PySem.W.Frag} {ca : Str → Addr} {W : WX} {F : Hp}
theorem ditems_e {vs : List V} {xs : List PyData} {J : It} (h : ∀ H', Same F H' → (∀ i x, vs[i]? = some x → J.go i H') ∧ (∀ i, vs.length ≤ i → J.stop i H') ∧ ∀ i x H'', J.yld i H' x H'' → ∃ T y, x = .ref T ∧ H' T = none ∧ H'' = upd H' T (.tup [.int (i : Nat), y]) ∧ vs[i]? = some y) (r : DrAll K F vs xs) : DItems K J F (enumL 0 xs) where
  stop := fun F' H' i f g hi => (h H' (f.trans g)).2.1 i (by rw [r.length]; rw [enumL_len] at hi; exact hi)
  go := fun F' H' i f g hi => by
    rw [enumL_len] at hi
    have hv : i < vs.length := by rw [r.length]; exact hi
    exact (h H' (f.trans g)).1 i vs[i] (List.getElem?_eq_getElem hv)
  yld := fun F' H' i x H'' d f g hd y => by
    obtain ⟨T, w, e1, e2, e3, e4⟩ := (h H' (f.trans g)).2.2 i x H'' y
    rw [enumL_get] at hd
    obtain ⟨z, hz, ez⟩ := Option.map_eq_some_iff.mp hd
    obtain ⟨w', h1, h2⟩ := r.get hz
    rw [e4] at h1
    cases h1
    refine .inr ⟨T, [.int (i : Nat), w], [.int (i : Nat), z], e2, e3, e1, ?_, .cons (.int _) (.cons (h2.mono f) .nil)⟩
    rw [← ez]
    simp
theorem ti_enum {f : DE} {σ : L2.St} {H : Hp} {RI : It → Hp → Prop} (h : dTI K ca W (enumE f) σ H RI) : iEnumA K (dTE K ca W f) σ H RI :=
  ti1 (k := fun env x S1 => match x.fixed with
  | some (.d (.list xs)) => .ok (.d (.list (enumL 0 xs))) S1
  | some (.d (.tuple xs)) => .ok (.d (.list (enumL 0 xs))) S1
  | _ => .stuck) h fun H0 F ρ S env s x S1 v F1 H1 ρ1 n r p => by
    cases q : x.fixed with
    | none => simp only [q] at p; exact p.elim
    | some ev =>
      simp only [q] at p
      obtain ⟨F2, n2, sm, r2⟩ := n.fixed s.old r q
      cases ev with
      | d y =>
        cases y with
        | list xs =>
          cases r2 with
          | lst h1 d1 =>
            refine .inl ⟨_, rfl, ⟨_, SqL.of (n2.sim.fz _ _ h1)⟩, p _ _ _ _ n2 (ditems_e (fun H' g => ⟨fun i x e => ⟨_, x, SqL.of (g _ _ h1), e⟩, fun i e => ⟨_, SqL.of (g _ _ h1), e⟩, fun i x H'' ⟨T, y, e1, e2, e3, e4⟩ => ⟨T, y, e1, e2, e3, e4 _ (SqL.of (g _ _ h1))⟩⟩) d1)⟩
        | tuple xs =>
          cases r2 with
          | tup h1 d1 =>
            refine .inr ⟨_, rfl, ⟨_, same_t n2.sim.fz h1⟩, p _ _ _ _ n2 (ditems_e (fun H' g => ⟨fun i x e => ⟨_, x, same_t g h1, e⟩, fun i e => ⟨_, same_t g h1, e⟩, fun i x H'' ⟨T, y, e1, e2, e3, e4⟩ => ⟨T, y, e1, e2, e3, e4 _ (same_t g h1)⟩⟩) d1)⟩
        | _ => exact p.elim
      | _ => exact p.elim
theorem ji_enum {X : Cx} {e : Expr} {f : DE} {p pos tpos : Pos} {elts : List Expr} {kk : Nat} (hg : Gl X "enumerate") (hm : X.mg "enumerate" = none) (h : JE X ca W e f) (hs : starEach [e] X.env = [(false, eval e X.env)] := by rfl) : JI X ca W (.Tuple elts kk tpos) (.Call (.Name "enumerate" p) [e] [] pos) (enumE f) :=
  imp_i (pi_enumA hg hm h hs) fun σ H R h => ti_enum h
end
@[simp] theorem enumE_ap {f : DE} {env : Env} {S : Store} : enumE f env S = (f env S).bind fun x S1 => match x.fixed with
  | some (.d (.list xs)) => .ok (.d (.list (enumL 0 xs))) S1
  | some (.d (.tuple xs)) => .ok (.d (.list (enumL 0 xs))) S1
  | _ => .stuck := rfl
end DL

set_option Elab.async false
set_option linter.all false
set_option maxRecDepth 100000
set_option maxHeartbeats 4000000
/-! DL19: defs as values; sorted texts. -/
namespace DL
open PySem PySem.Spec PyProof.Rows L2

def fnE (x : Str) : DE := fun _ S => .ok (.fn x) S
@[simp] theorem fnE_ap {x : Str} {env : Env} {S : Store} : fnE x env S = .ok (.fn x) S := rfl
def lookF : List (Str × DF) → Str → Option DF
  | [], _ => none
  | (y, F) :: r, x => if x = y then some F else lookF r x
/-- the def that a slot holds is called -/
def callN (i : Nat) (tab : List (Str × DF)) (as : DA) : DE := fun env S => match env[i]? with
  | some (some (.fn x)) => match lookF tab x with
    | some F => (as env S).bind F
    | none => .stuck
  | _ => .stuck
section
variable {X : Cx} {ca : Str → Addr} {W : WX} {k : Nat} {x : Str} {p pos : Pos} {e : Expr} {es : List Expr} {fs : List DE} {i : Nat}
theorem je_fn (hg : Gl X x) (hm : X.mg x = some (.ref (He.ga X.K x))) (hx : (x == ("__debug__" : Str)) = false := by decide) : JE X ca W (.Name x pos) (fnE x) :=
  imp_e (pe_glob (v := .ref (He.ga X.K x)) hg hm rfl hx) fun σ H Q ⟨H0, F, ρ, S, env, s, p⟩ => p _ _ _ _ ⟨Stp.refl _ _ _, s⟩ rfl
/-- a def that may be called so -/
structure Tab (X : Cx) (ca : Str → Addr) (k m : Nat) (x : Str) (F : DF) : Prop where
  ex : ∃ (fd : FuncData) (ps : List Str) (k' : Nat), k' ≤ k ∧ JF X.prog X.w X.K X.mg X.base ca k' (He.ga X.K x) fd ps F ∧ PySem.W.keepIn X.K (.ref (He.ga X.K x)) = true ∧ Binds X.K fd ps [] ∧ ps.length = m
theorem je_callN {tab : List (Str × DF)} (ht : ∀ y F, lookF tab y = some F → Tab X ca k fs.length y F) (hr : Room k X.A) (tk : Takes X W) (hN : X.N[i]? = some x) (hv : Vis X.env.scope x) (ha : JA X ca W (e :: es) (asL fs))
    (hdb : (x == ("__debug__" : Str)) = false := by decide) (hcd : (x == ("__classdict__" : Str)) = false := by decide) (he : starEach (e :: es) X.env = (false, eval e X.env) :: starEach es X.env := by rfl) (hpl : (backTo pos (starEach es X.env)).any (·.1) = false := by rfl) :
    JE X ca W (.Call (.Name x p) (e :: es) [] pos) (callN i tab (asL fs)) := by
  refine ⟨fun pins s σ H Q I h => ?_⟩
  obtain ⟨H0, F, ρ, S, env, sm, po⟩ := h
  unfold callN at po
  cases q : env[i]? with
  | none => simp only [q] at po; exact po.elim
  | some o =>
    cases o with
    | none => simp only [q] at po; exact po.elim
    | some ev =>
      cases ev with
      | fn y =>
        simp only [q] at po
        cases q2 : lookF tab y with
        | none => simp only [q2] at po; exact po.elim
        | some Ff =>
          simp only [q2] at po
          obtain ⟨fd, ps, k', hk', Fk, hkp, hb, hl⟩ := (ht y Ff q2).ex
          obtain ⟨v, hs, hv2⟩ := sm.slot i _ q
          have hv3 : v = .ref (He.ga X.K y) := hv2
          subst hv3
          refine wpAny_Call_Name_kw (thn ((pe_var (pos := p) hN hv hdb hcd).run pins s σ H (fun v H1 => v = .ref (He.ga X.K y) ∧ H1 = H) I ⟨_, hs, rfl, rfl⟩) fun u s1 ⟨v, H1, I1, r1, q1⟩ => ?_)
          obtain ⟨rfl, rfl⟩ := q1
          cases r1
          refine PySem.W.callWith_K (h₀ := X.base) I.ok.mod.kin hkp (thn (ha.run pos pins s1 σ _ (fun vs H2 => spD X.K ca ps.length Ff vs H2 Q (fun cls d H => W cls d σ H)) I1 (ta_end (k := fun xs S1 => Ff xs S1) ⟨H0, F, ρ, S, env, sm, po⟩ fun H0 F ρ S env s xs S1 vs F1 H1 ρ1 ex n r p =>
            ⟨by rw [Paired.length r, asL_len _ _ _ _ _ ex, hl], F1, ρ1, S1, xs, sim_base n.sim, paired_and r fun b hb a q => ⟨by
              have ho := asL_own _ _ _ _ _ ex b hb
              cases b with
              | own x => cases ho
              | ownD x => cases ho
              | _ => exact q, asL_own _ _ _ _ _ ex b hb⟩, post_call n p⟩)) fun us s2 ⟨vs, H2, I2, r, q⟩ => ⟨I2.kIn, ?_⟩) he hpl
          exact run_fnSD (E := fun σ cls d H => W cls d σ H) Fk (hr.mono hk') hb .nil (passAt tk σ) I2 r (by rw [List.append_nil]; exact q)
      | _ => simp only [q] at po; exact po.elim
end
/-! ### sorted texts -/
def insS (x : Str) : List Str → List Str
  | [] => [x]
  | y :: ys => if ltCps y.cps.toList x.cps.toList then y :: insS x ys else x :: y :: ys
def sortS : List Str → List Str
  | [] => []
  | x :: xs => insS x (sortS xs)
theorem insS_perm (x : Str) : ∀ ys, (insS x ys).Perm (x :: ys)
  | [] => .refl _
  | y :: ys => by
    unfold insS
    split
    · exact ((insS_perm x ys).cons y).trans (List.Perm.swap x y ys)
    · exact .refl _
theorem sortS_perm : ∀ xs, (sortS xs).Perm xs
  | [] => .refl _
  | x :: xs => (insS_perm x (sortS xs)).trans ((sortS_perm xs).cons x)
theorem str_eq {x y : Str} (h : x.cps.toList = y.cps.toList) : x = y := by
  obtain ⟨a⟩ := x
  obtain ⟨b⟩ := y
  obtain ⟨a⟩ := a
  obtain ⟨b⟩ := b
  simp only at h
  rw [h]
def leS (x y : Str) : Prop := ltCps y.cps.toList x.cps.toList = false
theorem leS_le {x y : Str} : leS x y ↔ x.cps.toList ≤ y.cps.toList := by
  unfold leS
  rw [ltCps_eq, decide_eq_false_iff_not]
  exact List.not_lt
theorem leS_trans {x y z : Str} (a : leS x y) (b : leS y z) : leS x z := leS_le.mpr (List.le_trans (leS_le.mp a) (leS_le.mp b))
theorem leS_anti {x y : Str} (a : leS x y) (b : leS y x) : x = y := str_eq (List.le_antisymm (leS_le.mp a) (leS_le.mp b))
theorem leS_total (x y : Str) : leS x y ∨ leS y x := by
  rcases List.le_total x.cps.toList y.cps.toList with h | h
  · exact .inl (leS_le.mpr h)
  · exact .inr (leS_le.mpr h)
theorem insS_sorted (x : Str) : ∀ ys, ys.Pairwise leS → (insS x ys).Pairwise leS
  | [], _ => List.pairwise_singleton _ _
  | y :: ys, h => by
    obtain ⟨h1, h2⟩ := List.pairwise_cons.mp h
    unfold insS
    split
    · rename_i hlt
      refine List.pairwise_cons.mpr ⟨fun z hz => ?_, insS_sorted x ys h2⟩
      rcases List.mem_cons.mp ((insS_perm x ys).mem_iff.mp hz) with e | e
      · subst e
        rcases leS_total y z with t | t
        · exact t
        · unfold leS at t
          rw [hlt] at t
          cases t
      · exact h1 z e
    · rename_i hlt
      have hx : leS x y := by simpa [leS] using hlt
      refine List.pairwise_cons.mpr ⟨fun z hz => ?_, h⟩
      rcases List.mem_cons.mp hz with e | e
      · subst e; exact hx
      · exact leS_trans hx (h1 z e)
theorem sortS_sorted : ∀ xs, (sortS xs).Pairwise leS
  | [] => .nil
  | x :: xs => insS_sorted x _ (sortS_sorted xs)
theorem sorted_one : ∀ {xs ys : List Str}, xs.Pairwise leS → ys.Pairwise leS → xs.Perm ys → xs = ys
  | [], ys, _, _, p => (List.nil_perm.mp p).symm
  | x :: xs, [], _, _, p => absurd (List.perm_nil.mp p) (by simp)
  | x :: xs, y :: ys, h1, h2, p => by
    obtain ⟨a1, a2⟩ := List.pairwise_cons.mp h1
    obtain ⟨b1, b2⟩ := List.pairwise_cons.mp h2
    have e : x = y := by
      rcases List.mem_cons.mp (p.mem_iff.mp List.mem_cons_self) with q | q
      · exact q
      · rcases List.mem_cons.mp (p.mem_iff.mpr List.mem_cons_self) with q2 | q2
        · exact q2.symm
        · exact leS_anti (a1 y q2) (b1 x q)
    subst e
    rw [sorted_one a2 b2 (List.perm_cons x |>.mp p)]
theorem rising_pw : ∀ {xs : List Str} {p : Str}, risingS p xs = true → (p :: xs).Pairwise leS
  | [], p, _ => List.pairwise_singleton _ _
  | x :: xs, p, h => by
    unfold risingS at h
    rw [Bool.and_eq_true] at h
    have r := rising_pw h.2
    have hp : leS p x := by simpa [leS] using h.1
    refine List.pairwise_cons.mpr ⟨fun z hz => ?_, r⟩
    rcases List.mem_cons.mp hz with e | e
    · subst e; exact hp
    · exact leS_trans hp ((List.pairwise_cons.mp r).1 z e)
theorem sortedS_pw {xs : List Str} (h : sortedS xs = true) : xs.Pairwise leS := by
  cases xs with
  | nil => exact .nil
  | cons x xs => exact rising_pw h
theorem sortS_is {xs ys : List Str} (p : ys.Perm xs) (h : sortedS ys = true) : ys = sortS xs := sorted_one (sortedS_pw h) (sortS_sorted xs) (p.trans (sortS_perm xs).symm)
def strsD : List PyData → Option (List Str)
  | [] => some []
  | .str x :: r => (strsD r).map (x :: ·)
  | _ => none
theorem strsD_eq : ∀ {xs : List PyData} {ss : List Str}, strsD xs = some ss → xs = ss.map .str
  | [], ss, h => by cases h; rfl
  | x :: xs, ss, h => by
    cases x with
    | str s =>
      obtain ⟨r, e1, e2⟩ := Option.map_eq_some_iff.mp h
      subst e2
      rw [strsD_eq e1]
      rfl
    | _ => cases h
def srtG : PyData → Option EV
  | .list xs => match strsD xs with
    | some ss => if ss.length < 64 then some (.own ((sortS ss).map .str)) else none
    | none => none
  | .dict ks => match strsD (ks.map (·.1)) with
    | some ss => if ss.length < 64 then some (.own ((sortS ss).map .str)) else none
    | none => none
  | _ => none
abbrev sortE : DE → DE := RE1 (vUn srtG)
theorem drAll_strs {K : PySem.W.Frag} {F : Hp} : ∀ {ss : List Str} {vs : List V}, DrAll K F vs (ss.map .str) → vs = ss.map V.str
  | [], _, .nil => rfl
  | s :: ss, _, .cons h r => by
    cases h
    rw [drAll_strs r]
    rfl
theorem drAll_ofStrs {K : PySem.W.Frag} {F : Hp} : ∀ (ss : List Str), DrAll K F (ss.map V.str) (ss.map .str)
  | [] => .nil
  | s :: ss => .cons (.str s) (drAll_ofStrs ss)
theorem drKv_keys {K : PySem.W.Frag} {F : Hp} : ∀ {ks : List (Key × V)} {xs : List (PyData × PyData)} {ss : List Str}, DrKv K F ks xs → xs.map (·.1) = ss.map .str → ks.map (·.1) = ss.map Sum.inr
  | [], _, ss, .nil, e => by
    cases ss with
    | nil => rfl
    | cons => cases e
  | _ :: _, _, ss, .cons h r, e => by
    cases ss with
    | nil => cases e
    | cons s ss =>
      simp only [List.map_cons, List.cons.injEq, PyData.str.injEq] at e ⊢
      exact ⟨by rw [e.1], drKv_keys r e.2⟩
def rSort1 (K : PySem.W.Frag) : List V → Hp → VK → Prop := fun xs H Q => rSortedS K xs H Q ∨ (∃ (a : Addr) (kvs : List (Key × V)) (ks : List Str), xs = [.ref a] ∧ Rd H a (.dK kvs) ∧ kvs.map (·.1) = ks.map Sum.inr ∧ ks.length < 64 ∧
    ∀ ys p, ys.Perm ks → sortedS ys = true → H p = none → Q (.ref p) (upd H p (.lst (ys.map V.str))))
theorem call_sort1 {X : Cx} (hc : X.calm = true) : CallR X (.builtin "sorted") (rSort1 X.K) := by
  intro pins s σ H xs us Q I r h
  rcases h with h | h
  · exact cr_sortedS pins s σ H xs us Q I r h
  · exact call_sortedD hc pins s σ H xs us Q I r h
section
variable {K : PySem.W.Frag} {ca : Str → Addr} {W : WX}
theorem unv_sort : UnV K ca W (fun v H Q => rSort1 K [v] H Q) srtG := by
  intro H0 env σ F H ρ F' H' ρ' S' v1 a ev Q n r e p
  unfold srtG at e
  split at e
  · split at e
    · rename_i ss q
      split at e
      · rename_i hl
        cases e
        obtain ⟨a1, vs1, e3, h1, d1⟩ := r
        subst e3
        rw [strsD_eq q] at d1
        rw [drAll_strs d1] at h1
        refine .inl ⟨a1, ss, rfl, SqL.of h1, hl, fun ys pt pm so hp => ?_⟩
        rw [sortS_is pm so]
        exact fin_l n p (drAll_ofStrs _) hp
      · cases e
    · cases e
  · split at e
    · rename_i ss q
      split at e
      · rename_i hl
        cases e
        obtain ⟨a1, ks1, e3, h1, d1⟩ := r
        subst e3
        refine .inr ⟨a1, ks1, ss, rfl, .inl h1, drKv_keys d1 (strsD_eq q), hl, fun ys pt pm so hp => ?_⟩
        rw [sortS_is pm so]
        exact fin_l n p (drAll_ofStrs _) hp
      · cases e
    · cases e
  · cases e
end
section
variable {X : Cx} {ca : Str → Addr} {W : WX} {a : Expr} {fa : DE} {p pos : Pos}
theorem je_sort (hc : X.calm = true) (hg : Gl X "sorted") (hm : X.mg "sorted" = none) (h : JE X ca W a fa) (he : starEach [a] X.env = (false, eval a X.env) :: starEach [] X.env := by rfl) : JE X ca W (.Call (.Name "sorted" p) [a] [] pos) (sortE fa) :=
  je_b1 (call_sort1 hc) unv_sort.d hg hm PyProof.Rows.boot_sorted h (he := he)
end
/-! ### a walk over a written tuple of defs -/
def forFD (t : DG) (body : DS) : List Str → DS
  | [] => fun env S => .next env S
  | d :: ds => fun env S => match t (.fn d) env with
    | none => .stuck
    | some env1 => match body env1 S with
      | .next env' S' => forFD t body ds env' S'
      | .cont env' S' => forFD t body ds env' S'
      | .brk env' S' => .next env' S'
      | .ret v S' => .ret v S'
      | .raise e env' S' => .raise e env' S'
      | .stuck => .stuck
theorem asL_fn {env : Env} {S : Store} : ∀ xs : List Str, asL (xs.map fnE) env S = .ok (xs.map .fn) S
  | [] => rfl
  | x :: xs => by
    rw [List.map_cons, asL_cons, fnE_ap, RE.bindA_ok, fixed_fn]
    simp only [asL_fn xs, RA.bindA_ok, List.map_cons]
theorem paired_at {α β : Type} {R : α → β → Prop} : ∀ {l : List α} {m : List β}, Paired R l m → ∀ i (h : i < m.length), ∃ h' : i < l.length, R l[i] m[i]
  | _, _, .nil, i, h => absurd h (by simp)
  | _, _, .cons h t, 0, _ => ⟨by simp, h⟩
  | _, _, .cons h t, i + 1, hi => by
    obtain ⟨h1, h2⟩ := paired_at t i (by simpa using hi)
    exact ⟨by simpa using h1, h2⟩
theorem js_forFn {X : Cx} {ca : Str → Addr} {W : WX} {tg : Expr} {es : List Expr} {x1 : Nat} {pos2 : Pos} {body : List Stmt} {xs : List Str} {t : DG} {g : DS} {pos : Pos} (hp : PassesOwn (model X.prog X.w) X.A X.env X.xe) (hc : X.calm = true) {is : List Nat}
    (ha : JA X ca W es (asL (xs.map fnE))) (hg : JG X ca tg t is) (hb : JSs X ca W body g) (hl : xs.length ≤ 1000 := by decide)
    (hs : ∀ x, foldedSetIterable (.Tuple es x1 pos2) X.env x = pure x := by intro _; rfl) : JS X ca W (.For tg (.Tuple es x1 pos2) body [] pos) (forFD t g xs) := fun z => imp_s (ps_for hp hc (pi_any (pe_tup ha)) hg (hb z) hs) fun D σ H ⟨F, ρ, S, env, s, p⟩ => by
  refine ⟨z.H0, F, ρ, S, env, s.sim, ?_⟩
  rw [asL_fn]
  intro vs F0 H0 ρ0 n0 pr
  have hv := Paired.length pr
  rw [List.length_map] at hv
  refine ⟨by rw [lim_eq]; unfold LIM; omega, fun a hpa => .inr (.inl ⟨a, rfl, ⟨vs, .inl (.inl upd_same)⟩, ?_⟩)⟩
  have n := n0.newT (vs := vs) hpa
  have hF0 : (upd F0 a (.tup vs)) a = some (.tup vs) := upd_same
  have hit : ∀ i (h : i < xs.length), vs[i]? = some (.ref (He.ga X.K xs[i])) := fun i h => by
    obtain ⟨h1, h2⟩ := paired_at pr i (by simpa using h)
    rw [List.getElem?_eq_getElem h1]
    have h3 : vs[i] = .ref (He.ga X.K xs[i]) := by
      have : RepV X.K F0 ρ0 H H0 vs[i] (.fn xs[i]) := by simpa using h2
      exact this
    rw [h3]
  have fz : ∀ {F' H' : Hp}, Same (upd F0 a (.tup vs)) F' → Same F' H' → SqT X.K H' a vs := fun f g => .inl (.inl (g _ _ (f _ _ hF0)))
  generalize upd F0 a (.tup vs) = F1 at n fz hF0
  generalize upd H0 a (.tup vs) = H1 at n
  refine ⟨fun i m σ H => m = xs.length - i ∧ i ≤ xs.length ∧ ∃ F' ρ' S' env', Same F1 F' ∧ SimS X.K ca z F' ρ' S' env' σ H ∧ PostS X.K ca W z F' D (forFD t g (xs.drop i) env' S'),
    ⟨xs.length, by simp, Nat.zero_le _, F1, ρ0, S, env, Same.refl _, s.on n, p.mono n.stp.fz⟩, ?_⟩
  rintro i m σ2 H2 ⟨rfl, hi2, F2, ρ2, S2, env2, f2, s2, p2⟩
  by_cases hlt : i < xs.length
  · refine .inr ⟨⟨vs, _, fz f2 s2.sim.fz, hit i hlt⟩, fun σ' H' => ∃ F' ρ' S' env', Same F1 F' ∧ SimS X.K ca z F' ρ' S' env' σ' H' ∧ PostS X.K ca W z F' D (forFD t g (xs.drop (i + 1)) env' S'),
      fun σ' H' h => ⟨xs.length - (i + 1), by omega, rfl, hlt, h⟩, fun x H3 y => ?_⟩
    have ed : xs.drop i = xs[i] :: xs.drop (i + 1) := List.drop_eq_getElem_cons hlt
    rw [ed] at p2
    obtain ⟨e3, y3⟩ := y
    subst e3
    have hx := y3 vs (fz f2 s2.sim.fz)
    rw [hit i hlt] at hx
    cases hx
    unfold forFD at p2
    cases q : t (.fn xs[i]) env2 with
    | none => simp only [q] at p2; exact p2.elim
    | some env3 =>
      simp only [q] at p2
      refine ⟨z.H0, F2, ρ2, S2, env2, .fn xs[i], env3, s2.sim, rfl, rfl, q, fun σ4 s4 _ => ⟨F2, ρ2, S2, env3, ⟨s4, s2.stp⟩, ?_⟩⟩
      revert p2
      cases q2 : g env3 S2 with
      | next env' S' => exact fun p2 σ' F' H' ρ' f' s' => ⟨F', ρ', S', env', f2.trans f', s', p2.mono f'⟩
      | cont env' S' => exact fun p2 σ' F' H' ρ' f' s' => ⟨F', ρ', S', env', f2.trans f', s', p2.mono f'⟩
      | brk env' S' => exact fun p2 σ' F' H' ρ' f' s' => p2 σ' F' H' ρ' f' s'
      | ret v S' => exact fun p2 => p2
      | raise e env' S' => exact fun p2 cls d σ' F' H' ρ' f' s' r => p2 cls d σ' F' H' ρ' f' s' r
      | stuck => exact fun p2 => p2
  · have e : i = xs.length := by omega
    subst e
    rw [List.drop_length] at p2
    exact .inl ⟨⟨vs, fz f2 s2.sim.fz, by omega⟩, p2 σ2 F2 H2 ρ2 (Same.refl _) s2⟩
theorem tab_nil {X : Cx} {ca : Str → Addr} {k m : Nat} : ∀ y F, lookF [] y = some F → Tab X ca k m y F := fun _ _ h => nomatch h
theorem tab_cons {X : Cx} {ca : Str → Addr} {k m : Nat} {x : Str} {G : DF} {r : List (Str × DF)} (h : Tab X ca k m x G) (t : ∀ y F, lookF r y = some F → Tab X ca k m y F) : ∀ y F, lookF ((x, G) :: r) y = some F → Tab X ca k m y F := fun y F e => by
  unfold lookF at e
  by_cases q : y = x
  · rw [if_pos q] at e
    cases e
    rw [q]
    exact h
  · rw [if_neg q] at e
    exact t y F e
theorem tab_of {X : Cx} {ca : Str → Addr} {k k' m : Nat} {x : Str} {f : Addr} {fd : FuncData} {ps : List Str} {F : DF} (Fk : JF X.prog X.w X.K X.mg X.base ca k' f fd ps F) (hg : X.mg x = some (.ref f)) (ha : X.mg x = some (.ref (He.ga X.K x))) (hk : PySem.W.keepIn X.K (.ref f) = true) (hb : Binds X.K fd ps [])
    (hl : k' ≤ k) (hm : ps.length = m := by rfl) : Tab X ca k m x F := by
  rw [hg] at ha
  cases ha
  exact ⟨fd, ps, k', hl, Fk, hk, hb, hm⟩
end DL

set_option Elab.async false
set_option linter.all false
set_option maxRecDepth 100000
set_option maxHeartbeats 4000000
/-! DL20: dicts that grow, three targets, tuple(range(a, b)). -/
namespace DL
open PySem PySem.Spec PyProof.Rows L2

section
variable {K : PySem.W.Frag} {ca : Str → Addr} {W : WX} {z : Ses} {H0 F H F' H' F1 H1 F2 H2 B : Hp} {ρ ρ' ρ1 ρ2 : List Addr} {S S' S1 S2 : Store} {env env' : Env} {σ σ' : L2.St} {v : V} {ev : EV} {D : Ends}
/-- the own list of a slot is changed -/
theorem Sim.mutOwnD (s : Sim K ca H0 F ρ S env σ H) {i : Nat} {a : Addr} {xs ys : List (PyData × PyData)} {ws : List (Key × V)} (e : env[i]? = some (some (.ownD xs))) (e2 : σ[i]? = some (some (.ref a))) (r : DrKv K F ws ys) :
    Sim K ca H0 F ρ S (env.set i (some (.ownD ys))) σ (upd H a (.dK ws)) := by
  obtain ⟨hF, hB, hr, hH⟩ := s.own_at e rfl e2
  have ne : ∀ b, b ∈ ρ → b ≠ a := fun b hb z => hr (z ▸ hb)
  have sl : ∀ j ej, env.set i (some (.ownD ys)) = env.set i (some (.ownD ys)) → (env.set i (some (.ownD ys)))[j]? = some (some ej) → (j = i ∧ ej = .ownD ys) ∨ (j ≠ i ∧ env[j]? = some (some ej)) := fun j ej _ h => by
    rcases get_set h with ⟨h1, _, h3⟩ | ⟨h1, h2⟩
    · cases h3
      exact .inl ⟨h1, rfl⟩
    · exact .inr ⟨h1, h2⟩
  refine ⟨fun b o hb => ?_, s.len, s.nd, s.rfz, fun l b c e3 e4 => ?_, by rw [List.length_set]; exact s.lenE, fun j ej h => ?_, fun j k ej ek b h1 h2 o1 o2 h3 h4 => ?_⟩
  · have : b ≠ a := fun z => by rw [z, hF] at hb; cases hb
    rw [upd_ne this]
    exact s.fz _ _ hb
  · have hb := ne b (List.mem_of_getElem? e3)
    have h := s.cell l b c e3 e4
    cases c with
    | lst cs =>
      obtain ⟨vs, q1, q2⟩ := h
      exact ⟨vs, by rw [upd_ne hb]; exact q1, q2⟩
    | obj cn fs =>
      obtain ⟨dx, vs, q1, q2⟩ := h
      exact ⟨dx, vs, by rw [upd_ne hb]; exact q1, q2⟩
  · rcases sl j ej rfl h with ⟨rfl, rfl⟩ | ⟨hj, h⟩
    · exact ⟨_, e2, a, ws, rfl, hB, upd_same, hF, hr, r⟩
    · obtain ⟨w, q1, q2⟩ := s.slot j ej h
      refine ⟨w, q1, ?_⟩
      have apart : ∀ (b : Addr), ej.isOwn = true → w = .ref b → b ≠ a := fun b o hw z => by
        rw [hw, z] at q1
        exact hj (s.ownD j i ej _ a h e o rfl q1 e2)
      cases ej with
      | own zs =>
        obtain ⟨b, vs, r1, r2, r3, r4⟩ := q2
        exact ⟨b, vs, r1, r2, by rw [upd_ne (apart b rfl r1)]; exact r3, r4⟩
      | ownD zs =>
        obtain ⟨b, vs, r1, r2, r3, r4⟩ := q2
        exact ⟨b, vs, r1, r2, by rw [upd_ne (apart b rfl r1)]; exact r3, r4⟩
      | d x => exact q2
      | bor x => exact q2
      | borD x => exact q2
      | ref x => exact q2
      | scr x => exact q2
      | opq x => exact q2
      | fn x => exact q2
      | tag x => exact q2
  · have own : ∀ (j : Nat) (ej : EV), (env.set i (some (.ownD ys)))[j]? = some (some ej) → ej.isOwn = true → ∃ ek, env[j]? = some (some ek) ∧ ek.isOwn = true := fun j ej h o => by
      rcases sl j ej rfl h with ⟨rfl, rfl⟩ | ⟨hj, h⟩
      · exact ⟨_, e, rfl⟩
      · exact ⟨ej, h, o⟩
    obtain ⟨e5, h5, o5⟩ := own j ej h1 o1
    obtain ⟨e6, h6, o6⟩ := own k ek h2 o2
    exact s.ownD j k e5 e6 b h5 h6 o5 o6 h3 h4
theorem SimS.mutOwnD (s : SimS K ca z F ρ S env σ H) {i : Nat} {a : Addr} {xs ys : List (PyData × PyData)} {ws : List (Key × V)} (e : env[i]? = some (some (.ownD xs))) (e2 : σ[i]? = some (some (.ref a))) (r : DrKv K F ws ys) :
    SimS K ca z F ρ S (env.set i (some (.ownD ys))) σ (upd H a (.dK ws)) := by
  obtain ⟨hF, hB, hr, hH⟩ := s.sim.own_at e rfl e2
  refine ⟨s.sim.mutOwnD e e2 r, s.stp.fz, s.stp.nfz, s.stp.rho, fun b o h1 h2 => ?_, fun b hb => ?_⟩
  · have : b ≠ a := fun z => by rw [z, hB] at h2; cases h2
    rw [upd_ne this]
    exact s.stp.fr b o h1 h2
  · by_cases e : b = a
    · rw [e]; exact hB
    · rw [upd_ne e] at hb
      exact s.stp.mono b hb

end
/-! ### {} -/
def empE : DE := fun _ S => .ok (.ownD []) S
@[simp] theorem empE_ap {env : Env} {S : Store} : empE env S = .ok (.ownD []) S := rfl
theorem je_dict0 {X : Cx} {ca : Str → Addr} {W : WX} {pos : Pos} : JE X ca W (.Dict [] [] pos) empE :=
  imp_e pe_dnewK fun σ H Q ⟨H0, F, ρ, S, env, s, p⟩ d hd => by
    have n : Now X.K ca H0 env σ F H ρ F H ρ S := ⟨Stp.refl _ _ _, s⟩
    exact p _ _ _ _ (n.newO hd) ⟨d, [], rfl, hd, upd_same, n.sim.unfz hd, n.sim.notin hd, .nil⟩
/-! ### d[k] = v -/
def keyIsS : PyData → Str → Bool
  | .str s, k => decide (s = k)
  | _, _ => false
def putD (ks : List (PyData × PyData)) (k : Str) (d : PyData) : List (PyData × PyData) :=
  if (ks.any fun p => keyIsS p.1 k) = true then ks.map (fun p => if keyIsS p.1 k = true then (p.1, d) else p) else ks ++ [(.str k, d)]
theorem drKv_any {K : PySem.W.Frag} {F : Hp} {k : Str} : ∀ {ks : List (Key × V)} {xs : List (PyData × PyData)}, DrKv K F ks xs → (ks.any fun kv => decide (kv.1 = Sum.inr k)) = xs.any fun p => keyIsS p.1 k
  | _, _, .nil => rfl
  | _, _, .cons (k := s) h r => by
    rw [List.any_cons, List.any_cons, drKv_any r]
    congr 1
    simp only [keyIsS, Sum.inr.injEq]
theorem drKv_map {K : PySem.W.Frag} {F : Hp} {k : Str} {v : V} {d : PyData} (q : Dr K F v d) : ∀ {ks : List (Key × V)} {xs : List (PyData × PyData)}, DrKv K F ks xs → DrKv K F (ks.map fun kv => if kv.1 = Sum.inr k then (kv.1, v) else kv) (xs.map fun p => if keyIsS p.1 k = true then (p.1, d) else p)
  | _, _, .nil => .nil
  | _, _, .cons (k := s) h r => by
    rw [List.map_cons, List.map_cons]
    by_cases e : s = k
    · subst e
      simp only [keyIsS, decide_true, if_true]
      exact .cons q (drKv_map q r)
    · have e2 : ¬ (Sum.inr s : Key) = Sum.inr k := fun z => e (Sum.inr.inj z)
      simp only [keyIsS, e, e2, decide_false, Bool.false_eq_true, if_false]
      exact .cons h (drKv_map q r)
theorem drKv_app {K : PySem.W.Frag} {F : Hp} : ∀ {ks ls : List (Key × V)} {xs ys : List (PyData × PyData)}, DrKv K F ks xs → DrKv K F ls ys → DrKv K F (ks ++ ls) (xs ++ ys)
  | _, _, _, _, .nil, s => s
  | _, _, _, _, .cons h r, s => .cons h (drKv_app r s)
theorem DrKv.put {K : PySem.W.Frag} {F : Hp} {k : Str} {v : V} {d : PyData} {ks : List (Key × V)} {xs : List (PyData × PyData)} (h : DrKv K F ks xs) (q : Dr K F v d) : DrKv K F (putK ks (Sum.inr k) v) (putD xs k d) := by
  unfold putK putD
  rw [drKv_any h]
  split
  · exact drKv_map q h
  · exact drKv_app h (.cons q .nil)
/-- the own dict of slot i -/
def dputS (i : Nat) (fi fv : DE) : DS := fun env S => (fv env S).bindS env fun x S1 => match x.fixed, env[i]? with
  | some (.d d), some (some (.ownD ks)) => (fi env S1).bindS env fun y S2 => match y with
    | .d (.str k) => if ks.length < 100000 then .next (env.set i (some (.ownD (putD ks k d)))) S2 else .stuck
    | _ => .stuck
  | _, _ => .stuck
section
variable {X : Cx} {ca : Str → Addr} {W : WX} {e ix : Expr} {f fi fv : DE}
theorem js_dput {i : Nat} {x : Str} {p p2 pos : Pos} (hu : X.A.units + 1 < cLine) (hN : X.N[i]? = some x) (hv : Vis X.env.scope x) (he : JE X ca W e fv) (hi : JE X ca W ix fi) (hd : (x == ("__debug__" : Str)) = false := by decide) (hcd : (x == ("__classdict__" : Str)) = false := by decide)
    (hs : swapsWith e (some (.Subscript (.Name x p) ix p2)) pos.line X.env = pure false := by rfl) :
    JS X ca W (.Assign [.Subscript (.Name x p) ix p2] e pos) (dputS i fi fv) := fun z =>
  imp_s (ps_dput hu (pe_var hN hv hd hcd) hi he hs) fun D σ H ⟨F, ρ, S, env, s, p⟩ =>
    ts1 (D := D) s p fun x S1 v F1 H1 ρ1 n s1 r p1 => by
      cases q : x.fixed with
      | none => simp only [q] at p1; exact p1.elim
      | some x' =>
        cases x' with
        | d d =>
          cases q2 : env[i]? with
          | none => simp only [q, q2] at p1; exact p1.elim
          | some o =>
            cases o with
            | none => simp only [q, q2] at p1; exact p1.elim
            | some ev =>
              cases ev with
              | ownD ks =>
                simp only [q, q2] at p1
                obtain ⟨F2, s2, sm, rr⟩ := s.fixed n r q
                obtain ⟨w, e1, _⟩ := s2.sim.slot i _ q2
                refine ⟨w, e1, ts1 (D := D) s2 (p1.mono sm) fun y S2 v2 F3 H3 ρ3 n3 s3 r3 p3 => ?_⟩
                cases y with
                | d y =>
                  cases y with
                  | str k =>
                    have p3' : PostS X.K ca W z F3 D (if ks.length < 100000 then .next (env.set i (some (.ownD (putD ks k d)))) S2 else .stuck) := p3
                    by_cases hl : ks.length < 100000
                    · rw [if_pos hl] at p3'
                      obtain ⟨w', e2, b, kvs, t1, t2, t3, t4, t5, t6⟩ := s3.sim.slot i _ q2
                      rw [e1] at e2
                      cases e2
                      subst t1
                      cases r3
                      exact ⟨b, _, rfl, DPut.k (k := Sum.inr k) t3 (by rw [t6.length, lim_eq]; unfold LIM; omega), p3' σ F3 _ ρ3 (Same.refl _) (s3.mutOwnD q2 e1 (t6.put (Dr.mono n3.stp.fz rr)))⟩
                    · rw [if_neg hl] at p3'
                      exact p3'.elim
                  | _ => exact p3.elim
                | _ => exact p3.elim
              | _ => simp only [q, q2] at p1; exact p1.elim
        | _ => simp only [q] at p1; exact p1.elim
end
/-! ### k in d -/
def kInD (neg : Bool) : EV → EV → Store → RE := fun y x S => match y, x with
  | .d (.str k), .d (.dict ks) => .ok (bE (if neg then !(lookD ks k).isSome else (lookD ks k).isSome)) S
  | .d (.str k), .borD ks => .ok (bE (if neg then !(lookD ks k).isSome else (lookD ks k).isSome)) S
  | _, _ => .stuck
abbrev inDE : DE → DE → DE := RE2 (kInD false)
abbrev ninDE : DE → DE → DE := RE2 (kInD true)
theorem look_some {K : PySem.W.Frag} {F : Hp} {k : Str} {ks : List (Key × V)} {xs : List (PyData × PyData)} (h : DrKv K F ks xs) : (valV ks (.inr k)).isSome = (lookD xs k).isSome := by
  obtain ⟨h1, h2⟩ := look_rep (k := k) h
  cases q : lookD xs k with
  | none =>
    rw [h2 q]
    rfl
  | some d =>
    obtain ⟨v, e, _⟩ := h1 d q
    rw [e]
    rfl
section
variable {X : Cx} {ca : Str → Addr} {W : WX} {a b : Expr} {fa fb : DE}
theorem te_inD {K : PySem.W.Frag} {neg : Bool} {σ : L2.St} {H : Hp} {Q : VK} (h : dTE K ca W (RE2 (kInD neg) fa fb) σ H Q) : dTE K ca W fa σ H fun y H1 => dTE K ca W fb σ H1 fun x H2 => ∃ a o, x = .ref a ∧ DGet H2 a y o ∧ Q (.bl (if neg then !o.isSome else o.isSome)) H2 :=
  te1 h fun H0 F ρ S env s x S1 v F1 H1 ρ1 n r1 p => te2 n p fun y S2 v2 F2 H2 ρ2 n2 st r2 p2 => by
    cases x with
    | d x =>
      cases x with
      | str k =>
        cases r1
        cases y with
        | d y =>
          cases y with
          | dict ks =>
            obtain ⟨a, kvs, rfl, h1, h2⟩ := rd_dct n2.sim.fz r2
            refine ⟨a, _, rfl, DGet.k (k := Sum.inr k) h1, ?_⟩
            rw [look_some h2]
            exact fin_d n2 p2 (.bl _)
          | _ => exact p2.elim
        | borD ks =>
          obtain ⟨i, a, q1, q2, rfl⟩ := r2
          obtain ⟨w, e1, b, kvs, t1, t2, t3, t4, t5, t6⟩ := n2.sim.slot i _ q1
          rw [q2] at e1
          cases e1
          cases t1
          refine ⟨a, _, rfl, DGet.k (k := Sum.inr k) t3, ?_⟩
          rw [look_some t6]
          exact fin_d n2 p2 (.bl _)
        | _ => exact p2.elim
      | _ => cases y <;> exact p2.elim
    | _ => cases y <;> exact p2.elim
theorem je_inD {pos : Pos} (hu : X.A.units + 1 < cLine) (ha : JE X ca W a fa) (hb : JE X ca W b fb) (hm : behindInMarks .In b = false := by rfl) : JE X ca W (.Compare a [.In] [b] pos) (inDE fa fb) := imp_e (pe_cmp (pc_din hu ha hb) (h1 := hm)) fun σ H Q h => te_inD (neg := false) h
theorem jt_inD {pos : Pos} (hu : X.A.units + 1 < cLine) (ha : JE X ca W a fa) (hb : JE X ca W b fb) (hm : behindInMarks .In b = false := by rfl) : JT X ca W (.Compare a [.In] [b] pos) (inDE fa fb) := imp_t (pt_cmp (pc_din hu ha hb) (h1 := hm)) fun σ H Q h => te_inD (neg := false) (tt_te h)
theorem je_ninD {pos : Pos} (hu : X.A.units + 1 < cLine) (ha : JE X ca W a fa) (hb : JE X ca W b fb) (hm : behindInMarks .NotIn b = false := by rfl) : JE X ca W (.Compare a [.NotIn] [b] pos) (ninDE fa fb) := imp_e (pe_cmp (pc_dnotin hu ha hb) (h1 := hm)) fun σ H Q h => te_inD (neg := true) h
theorem jt_ninD {pos : Pos} (hu : X.A.units + 1 < cLine) (ha : JE X ca W a fa) (hb : JE X ca W b fb) (hm : behindInMarks .NotIn b = false := by rfl) : JT X ca W (.Compare a [.NotIn] [b] pos) (ninDE fa fb) := imp_t (pt_cmp (pc_dnotin hu ha hb) (h1 := hm)) fun σ H Q h => te_inD (neg := true) (tt_te h)
end
/-! ### a, b, c = e1, e2, e3: fixed data into plain locals -/
def par3D (i j l : Nat) (f g h : DE) : DS := fun env S => (f env S).bindS env fun x S1 => (g env S1).bindS env fun y S2 => (h env S2).bindS env fun u S3 => match x, y, u with
  | .d a, .d b, .d c => .next (((env.set i (some (.d a))).set j (some (.d b))).set l (some (.d c))) S3
  | _, _, _ => .stuck
section
variable {X : Cx} {ca : Str → Addr} {W : WX} {a b c : Expr} {f g h : DE}
theorem js_par3 {i j l : Nat} {x y w : Str} {px py pw pt pos : Pos} {kt k2 pt2} (hc : X.calm = true) (hN : X.N.Nodup) (hi : X.N[i]? = some x) (hj : X.N[j]? = some y) (hl : X.N[l]? = some w) (hij : i ≠ j) (hil : i ≠ l) (hjl : j ≠ l)
    (hx : X.env.scope.names.lookup x = some .local) (hy : X.env.scope.names.lookup y = some .local) (hw' : X.env.scope.names.lookup w = some .local) (ha : JE X ca W a f) (hb : JE X ca W b g) (hcc : JE X ca W c h)
    (hw : swappedStores [.Tuple [.Name x px, .Name y py, .Name w pw] kt pt] (.Tuple [a, b, c] k2 pt2) X.env = pure (some [x, y, w]))
    (hs : swapsWithSole [.Tuple [.Name x px, .Name y py, .Name w pw] kt pt] (.Tuple [a, b, c] k2 pt2) pos.line X.env = pure false := by rfl) (hs1 : starEach [a, b, c] X.env = (false, eval a X.env) :: starEach [b, c] X.env := by rfl) (hs2 : starEach [b, c] X.env = (false, eval b X.env) :: starEach [c] X.env := by rfl) (hs3 : starEach [c] X.env = (false, eval c X.env) :: starEach [] X.env := by rfl) :
    JS X ca W (.Assign [.Tuple [.Name x px, .Name y py, .Name w pw] kt pt] (.Tuple [a, b, c] k2 pt2) pos) (par3D i j l f g h) := fun z =>
  imp_s (ps_par3 hc hN hi hj hl hij hil hjl hx hy hw' (pa_cons ha (pa_cons hb (pa_cons hcc pa_nil hs3) hs2) hs1) hw hs) fun D σ H ⟨F, ρ, S, env, s, p⟩ =>
    ts1 (D := D) s p fun x S1 v F1 H1 ρ1 n s1 r p1 => ts1 (D := D) s1 p1 fun y S2 w F2 H2 ρ2 n2 s2 r2 p2 => ts1 (D := D) s2 p2 fun u S3 t F3 H3 ρ3 n3 s3 r3 p3 => by
      cases x with
      | d x =>
        cases y with
        | d y =>
          cases u with
          | d u =>
            have rx : Dr X.K F3 v x := Dr.mono n3.stp.fz (Dr.mono n2.stp.fz r)
            have ry : Dr X.K F3 w y := Dr.mono n3.stp.fz r2
            have t1 := s3.setSlot (ev := .d x) i (v := v) rx (fun o => nomatch o)
            have t2 := t1.setSlot (ev := .d y) j (v := w) ry (fun o => nomatch o)
            have t3 := t2.setSlot (ev := .d u) l (v := t) r3 (fun o => nomatch o)
            exact ⟨v, w, t, rfl, p3 _ F3 H3 ρ3 (Same.refl _) t3⟩
          | _ => exact p3.elim
        | _ => cases u <;> exact p3.elim
      | _ => cases y <;> cases u <;> exact p3.elim
end
/-! ### tuple(range(a, b)) -/
noncomputable def rg2G (a b : PyData) : Option EV := match a, b with
  | .int i, .int j => @ite _ (-(2 ^ 61) ≤ i ∧ i ≤ 2 ^ 61 ∧ -(2 ^ 61) ≤ j ∧ j ≤ 2 ^ 61 ∧ j - i ≤ 16777216) (Classical.propDecidable _) (some (.d (.tuple (rngL i (j - i).toNat)))) none
  | _, _ => none
noncomputable abbrev tupRg2E : DE → DE → DE := RE2 (vOp rg2G)
section
variable {X : Cx} {ca : Str → Addr} {W : WX} {a b : Expr} {fa fb : DE}
theorem rng2_rep {F : Hp} {i j : Int} : DrAll X.K F (rgV i j) (rngL i (j - i).toNat) := by
  unfold rgV rngL
  have : ∀ l : List Nat, DrAll X.K F (l.map fun k => V.int (i + (k : Nat))) (l.map fun k => PyData.int (i + (k : Nat))) := fun l => by
    induction l with
    | nil => exact .nil
    | cons x l ih => exact .cons (.int _) ih
  exact this _
theorem opv_rg2 : OpV X.K ca W (fun v u H Q => ∃ i j, v = .int i ∧ u = .int j ∧ RgOk i j ∧ ∀ q, H q = none → Q (.ref q) (upd H q (.tup (rgV i j)))) rg2G := by
  intro H0 env σ F H ρ F' H' ρ' S' v1 v2 a b ev Q n r1 r2 e p
  unfold rg2G at e
  split at e
  · rename_i i j
    by_cases h : -(2 ^ 61) ≤ i ∧ i ≤ 2 ^ 61 ∧ -(2 ^ 61) ≤ j ∧ j ≤ 2 ^ 61 ∧ j - i ≤ 16777216
    · rw [if_pos h] at e
      cases e
      cases r1
      cases r2
      exact ⟨_, _, rfl, rfl, ⟨by omega, by omega, by omega, by omega, by omega⟩, fun q hq => fin_t n p (rng2_rep (X := X)) hq⟩
    · rw [if_neg h] at e
      cases e
  · cases e
theorem je_tupRg2 {p p2 pos pos2 : Pos} (hc : X.calm = true) (hg : Gl X "tuple") (hm : X.mg "tuple" = none) (hg2 : Gl X "range") (hm2 : X.mg "range" = none) (h : JE X ca W a fa) (h2 : JE X ca W b fb) (na : starEach [a, b] X.env = (false, eval a X.env) :: starEach [b] X.env := by rfl)
    (na2 : starEach [b] X.env = (false, eval b X.env) :: starEach [] X.env := by rfl) (hp : (backTo pos2 (starEach [b] X.env)).any (·.1) = false := by rfl)
    (nb : starEach [.Call (.Name "range" p2) [a, b] [] pos2] X.env = (false, eval (.Call (.Name "range" p2) [a, b] [] pos2) X.env) :: starEach [] X.env := by rfl) : JE X ca W (.Call (.Name "tuple" p) [.Call (.Name "range" p2) [a, b] [] pos2] [] pos) (tupRg2E fa fb) :=
  imp_e (pe_tupRg hc hg hm (prg_2 hg2 hm2 h h2 na na2 hp) nb) fun σ H Q h => te_op (opv_rg2 (X := X)).d h
end
end DL

set_option Elab.async false
set_option linter.all false
set_option maxRecDepth 100000
set_option maxHeartbeats 4000000
/-! DL21: set(a) != set(b), sets of ints and texts. -/
namespace DL
open PySem PySem.Spec PyProof.Rows L2
section
variable {κ : Type} [DecidableEq κ] {prog : Program} {w : World} {A : Around} {E : Value → Shared → Prop} {s : Shared} {knd : PySem.KeyKind prog w κ}
theorem entry_set_ne : entryFor table "set.__ne__" = some Builtin.«frozenset.__ne__» :=
  entryFor_alias (id' := "frozenset.__ne__") (by kernel_rfl) rfl (by decide +kernel) (by kernel_rfl)
theorem sub_set_set : isSubtype (.type "set") (.type "set") = pure true := by rw [isSubtype_type]; kernel_rfl
theorem sub_set_frozen : isSubtype (.type "set") (.type "frozenset") = pure false := by rw [isSubtype_type]; kernel_rfl
theorem quiet_not_ref {x : Value} {Q : Bool → Shared → Prop} (h : ∀ a, x ≠ .ref a) (q : Q true s) : wpAny (model prog w) A (Builtin.Frozenset.quietEq x) Q E s := by
  unfold Builtin.Frozenset.quietEq
  cases x with
  | ref a => exact absurd rfl (h a)
  | _ => exact wpAny_pure q
theorem walk_quiet {a : Addr} {L : List (Int × Value)} {es : List (Int × Value)} {Q : List (Int × Value) → Shared → Prop} (hL : ∀ e ∈ L, ∀ a, e.2 ≠ .ref a) (q : Q es s) :
    wpAny (model prog w) A (do
      for (_, x) in L do
        if !(← Builtin.Frozenset.quietEq x) then return ← Builtin.Frozenset.walk a
      return es) Q E s := by
  induction L with
  | nil => exact wpAny_pure q
  | cons e L ih =>
    simp only [List.forIn_cons, bind_assoc]
    refine wpAny_bind (quiet_not_ref (hL e (.head _)) ?_)
    simp only [Bool.not_true, Bool.false_eq_true, if_false, pure_bind]
    exact ih fun x hx => hL x (.tail _ hx)
theorem unchanged_of {a : Addr} {o : Obj} {es : Array (Int × Value)} {ep : Nat} {t : SetTable} (ho : s.heap.get? a = some o) (hd : o.data = .set es ep t) (hf : t.fits es.size = true) {id : String} {Q : Unit → Shared → Prop} (q : Q () s) :
    wpAny (model prog w) A (Builtin.Frozenset.unchanged id a ep) Q E s := by
  unfold Builtin.Frozenset.unchanged
  refine wpAny_bind (wpAny_setEpoch_of ho hd hf ?_)
  simp only [bne_self_eq_false, Bool.false_eq_true, if_false]
  exact wpAny_pure q
theorem sub_loop {a b : Addr} {o : Obj} {es : Array (Int × Value)} {ep : Nat} {t : SetTable} {S : κ → Bool} {m : Nat} (ho : s.heap.get? a = some o) (hd : o.data = .set es ep t) (hf : t.fits es.size = true) (hS : s.heap.SetOf knd b S m) {id : String}
    {L : List (Int × Value)} (hL : ElemsOf knd L) {Q : Bool → Shared → Prop} (q : ∀ r : Bool, (r = true ↔ ∀ e ∈ L, ∀ k, knd.is k e.2 = true → S k = true) → Q r s) :
    wpAny (model prog w) A (do
      for (h, x) in L do
        if (← holding [x] (setFind b x h)).isNone then return false
        Builtin.Frozenset.unchanged id a ep
      return true) Q E s := by
  induction L with
  | nil => exact wpAny_pure (q true ⟨fun _ e he => (nomatch he), fun _ => rfl⟩)
  | cons e L ih =>
    obtain ⟨⟨k, hk, hh⟩, sc⟩ := hL.head
    simp only [List.forIn_cons, bind_assoc]
    rw [hh]
    refine wpAny_bind (wpAny_holding (wpAny_setFind_of hk sc hS fun r hr => ?_))
    have only : ∀ k', knd.is k' e.2 = true → k' = k := fun k' h => by
      have := KeyKind.is_eq_decide hk k'
      rw [h] at this
      exact of_decide_eq_true this.symm
    cases r with
    | none =>
      simp only [Option.isNone_none, if_true, pure_bind]
      refine wpAny_pure (q false ⟨fun h => (nomatch h), fun h => ?_⟩)
      have := h e (.head _) k hk
      rw [← hr] at this
      exact this
    | some j =>
      simp only [Option.isNone_some, Bool.false_eq_true, if_false, pure_bind, bind_assoc]
      refine wpAny_bind (unchanged_of ho hd hf ?_)
      refine ih (fun x hx => hL x (.tail _ hx)) fun r hr2 => q r (hr2.trans ⟨fun h x hx k' hk' => ?_, fun h x hx => h x (.tail _ hx)⟩)
      cases hx with
      | head => rw [only k' hk', ← hr]; rfl
      | tail _ hx => exact h x hx k' hk'
/-- a != b, two sets -/
theorem ne_sets {a b : Addr} {S T : κ → Bool} {n m : Nat} (hu : A.units < cLine) (hkn : ∀ k x, knd.is k x = true → ∀ c, x ≠ .ref c) (hS : s.heap.SetOf knd a S n) (hT : s.heap.SetOf knd b T m) {Q : Value → Shared → Prop}
    (q : ∀ r : Bool, (r = true ↔ ¬ (n = m ∧ ∀ k, S k = true → T k = true)) → Q (.bool r) s) : wpAny (model prog w) A (compareOp .NotEq (.ref a) (.ref b)) Q E s := by
  obtain ⟨o, es, ep, t, ho, hex, hd, hel, hmem, hb, hf, hsz⟩ := id hS
  obtain ⟨o2, es2, ep2, t2, ho2, hex2, hd2, hel2, hmem2, hb2, hf2, hsz2⟩ := id hT
  change wpAny _ _ (richCompare .NotEq (.ref a) (.ref b)) Q E s
  refine wpAny_richCompare_same_room hS.typeIs hT.typeIs F.slot_set_ne (wpAny_call_entry F.slot_set_ne hS.typeIs entry_set_ne ?_ (F.args_set_ne_2 _ _)) hu
  change wpAny _ _ (Builtin.Frozenset.slot1 "__ne__" _ >>= _) _ _ _
  refine wpAny_bind (wpAny_of_eq (a := (Value.ref a, Value.ref b)) rfl ?_)
  change wpAny _ _ (Builtin.Frozenset.isAnySet (.ref b) >>= _) _ _ _
  unfold Builtin.Frozenset.isAnySet
  refine wpAny_bind (wpAny_bind (wpAny_isInstance hT.typeIs sub_set_set ?_))
  refine wpAny_pure ?_
  simp only [Bool.not_true, Bool.false_eq_true, if_false, pure_bind]
  change wpAny _ _ (Builtin.Frozenset.addrOf (.ref a) >>= _) _ _ _
  refine wpAny_bind (wpAny_of_eq (a := a) rfl ?_)
  change wpAny _ _ (Builtin.Frozenset.addrOf (.ref b) >>= _) _ _ _
  refine wpAny_bind (wpAny_of_eq (a := b) rfl ?_)
  change wpAny _ _ (Builtin.Frozenset.sizeOf a >>= _) _ _ _
  unfold Builtin.Frozenset.sizeOf
  refine wpAny_bind (wpAny_bind (wpAny_setEntries_of ho hd hf (wpAny_pure ?_)))
  refine wpAny_bind (wpAny_bind (wpAny_setEntries_of ho2 hd2 hf2 (wpAny_pure ?_)))
  by_cases e : es.size = es2.size
  · have e1 : ¬ ((es.size != es2.size) = true) := by simp [e]
    refine wpAny_bind ?_
    rw [if_neg e1]
    refine wpAny_bind (wpAny_bind (wpAny_isInstance hS.typeIs sub_set_frozen ?_))
    refine wpAny_pure ?_
    simp only [Bool.false_eq_true, if_false]
    unfold Builtin.Frozenset.subsetOf Builtin.Frozenset.sizeOf
    refine wpAny_bind (wpAny_bind (wpAny_setEntries_of ho hd hf (wpAny_pure ?_)))
    refine wpAny_bind (wpAny_bind (wpAny_setEntries_of ho2 hd2 hf2 (wpAny_pure ?_)))
    rw [if_neg (show ¬ es.size > es2.size by omega)]
    refine wpAny_bind (wpAny_setEpoch_of ho hd hf ?_)
    unfold Builtin.Frozenset.walkUnseen
    refine wpAny_bind (wpAny_bind (wpAny_setEntries_of ho hd hf ?_))
    refine wpAny_bind (wpAny_setEntries_of ho2 hd2 hf2 ?_)
    refine walk_quiet (fun x hx c => ?_) ?_
    · rcases List.mem_append.mp hx with hx | hx
      · obtain ⟨k, hk⟩ := hel.keys x hx
        exact hkn k _ hk c
      · obtain ⟨k, hk⟩ := hel2.keys x hx
        exact hkn k _ hk c
    refine sub_loop ho hd hf hT hel fun r hr => ?_
    refine wpAny_pure ⟨_, rfl, fun z => (nomatch z), q _ ?_⟩
    have := hmem
    cases r with
    | true =>
      have h1 := hr.mp rfl
      refine ⟨fun z => (nomatch z), fun z => absurd ⟨by omega, fun k hk => ?_⟩ z⟩
      obtain ⟨x, hx, hk2⟩ := (hmem k).mp hk
      exact h1 x hx k hk2
    | false =>
      refine ⟨fun _ z => ?_, fun _ => rfl⟩
      exact (nomatch (hr.mpr fun x hx k hk => z.2 k ((hmem k).mpr ⟨x, hx, hk⟩)))
  · have e1 : (es.size != es2.size) = true := by simp [e]
    refine wpAny_bind ?_
    rw [if_pos e1]
    refine wpAny_pure (wpAny_pure ⟨_, rfl, fun z => (nomatch z), q _ ⟨fun _ z => e (by omega), fun _ => rfl⟩⟩)
end

/-- the keys of a list or a tuple -/
def keysG : PyData → Option (List Key)
  | .list xs => match keysD xs with
    | some ks => if ks.length ≤ 4000 then some ks else none
    | none => none
  | .tuple xs => match keysD xs with
    | some ks => if ks.length ≤ 4000 then some ks else none
    | none => none
  | _ => none
/-- whether they differ as sets -/
def neSets (ks ls : List Key) : Bool := !(decide ((dd ks).length = (dd ls).length) && ks.all fun k => hasK ls k)
theorem hasK_dd1 (acc : List Key) (v k : Key) : hasK (dd1 acc v) k = (hasK acc k || decide (k = v)) := dd1_any acc v k
theorem hasK_dd (ks : List Key) (k : Key) : hasK (dd ks) k = hasK ks k := by
  have h : ∀ (l acc : List Key), hasK (l.foldl dd1 acc) k = (hasK acc k || hasK l k) := fun l => by
    induction l with
    | nil => intro acc; simp [hasK]
    | cons x l ih =>
      intro acc
      rw [List.foldl_cons, ih, dd1_any]
      unfold hasK
      simp only [List.any_cons]
      rw [Bool.or_assoc]
      congr 2
      exact decide_eq_decide.mpr ⟨Eq.symm, Eq.symm⟩
  have := h ks []
  rw [show hasK [] k = false from rfl, Bool.false_or] at this
  exact this
theorem neSets_iff {ks ls : List Key} {r : Bool} (h : r = true ↔ ¬ ((dd ks).length = (dd ls).length ∧ ∀ k, hasK (dd ks) k = true → hasK (dd ls) k = true)) : r = neSets ks ls := by
  have e : neSets ks ls = true ↔ ¬ ((dd ks).length = (dd ls).length ∧ ∀ k, hasK (dd ks) k = true → hasK (dd ls) k = true) := by
    unfold neSets
    rw [Bool.not_eq_true', ← Bool.not_eq_true, Bool.and_eq_true, decide_eq_true_eq, List.all_eq_true]
    constructor
    · rintro z ⟨h1, h2⟩
      refine z ⟨h1, fun k hk => ?_⟩
      have := h2 k (by rw [hasK_dd]; exact List.any_eq_true.mpr ⟨k, hk, decide_eq_true rfl⟩)
      rwa [hasK_dd] at this
    · rintro z ⟨h1, h2⟩
      refine z ⟨h1, fun k hk => ?_⟩
      rw [hasK_dd] at hk ⊢
      obtain ⟨x, hx, ex⟩ := List.any_eq_true.mp hk
      rw [← of_decide_eq_true ex]
      exact h2 x hx
  exact Bool.eq_iff_iff.mpr (h.trans e.symm)
section
variable {X : Cx}
def rNeSet (P : Program) (w : World) : R2 := fun x y H Q => ∃ (a b : Addr) (S T : Key → Bool) (n m : Nat), x = V.ref a ∧ y = V.ref b ∧ H a = some (SetK P w a S n) ∧ H b = some (SetK P w b T m) ∧ ∀ r : Bool, (r = true ↔ ¬ (n = m ∧ ∀ k, S k = true → T k = true)) → Q (.bl r) H
theorem op_neSet (hu : X.A.units < cLine) : OpR X (compareOp .NotEq) (rNeSet X.prog X.w) := by
  intro pins s σ H x y v u Q I rx ry h
  obtain ⟨a, b, S, T, n, m, rfl, rfl, ha, hb, q⟩ := h
  cases rx
  cases ry
  refine ne_sets (knd := mixKind X.prog X.w) hu (fun k x hx c z => ?_) (setK_get I ha) (setK_get I hb) fun r hr => ⟨.bl r, H, I, rfl, q r hr⟩
  rcases keyIs_shape hx with ⟨i, t, _, e⟩ | ⟨i, t, _, e⟩ <;> rw [e] at z <;> cases z
variable {K : PySem.W.Frag} {ca : Str → Addr} {W : WX}
theorem set_rep {P : Program} {w : World} {F H : Hp} {v : V} {d : PyData} {ks : List Key} (fz : Same F H) (r : Vw K F H v d) (e : keysG d = some ks) {Q : VK} (q : ∀ p, H p = none → Q (.ref p) (upd H p (SetK P w p (fun k => hasK (dd ks) k) (dd ks).length))) : rSetOf P w K [v] H Q := by
  have go : ∀ {xs : List PyData} {ks' : List Key} {vs : List V} {b : Addr}, v = .ref b → keysD xs = some ks' → DrAll K F vs xs → (SqL K H b vs ∨ SqT K H b vs) → ks'.length ≤ 4000 → ks' = ks → rSetOf P w K [v] H Q := fun {xs ks' vs b} ev1 q1 d1 hq h4 ee => by
    subst ev1 ee
    have e := keys_rep d1 q1
    subst e
    exact ⟨_, ks', rfl, ⟨b, rfl, hq⟩, h4, q⟩
  unfold keysG at e
  split at e
  · split at e
    · rename_i ks' q1
      split at e
      · rename_i h4
        cases e
        obtain ⟨b, vs, e1, h1, d1⟩ := r
        exact go e1 q1 d1 (.inl (SqL.of h1)) h4 rfl
      · cases e
    · cases e
  · split at e
    · rename_i ks' q1
      split at e
      · rename_i h4
        cases e
        cases r with
        | tup h1 d1 => exact go rfl q1 d1 (.inr (same_t fz h1)) h4 rfl
      · cases e
    · cases e
  · cases e
end
/-- set(a) != set(b) -/
def neSetE (fa fb : DE) : DE := fun env S => (fa env S).bind fun x S1 => match (x.view S1).bind keysG with
  | some ks => (fb env S1).bind fun y S2 => match (y.view S2).bind keysG with
    | some ls => .ok (bE (neSets ks ls)) S2
    | none => .stuck
  | none => .stuck
section
variable {X : Cx} {ca : Str → Addr} {W : WX} {a b : Expr} {fa fb : DE} {p p2 pos pos2 pos3 : Pos}
theorem te_neSet {P : Program} {w : World} {K : PySem.W.Frag} {σ : L2.St} {H : Hp} {Q : VK} (h : dTE K ca W (neSetE fa fb) σ H Q) :
    tOp (rNeSet P w) (fun σ H Q => dTE K ca W fa σ H fun v H1 => rSetOf P w K [v] H1 Q) (fun σ H Q => dTE K ca W fb σ H fun v H1 => rSetOf P w K [v] H1 Q) σ H Q :=
  te1 h fun H0 F ρ S env s x S1 v F1 H1 ρ1 n r1 po => by
    cases q1 : x.view S1 with
    | none => simp only [q1, Option.bind_none] at po; exact po.elim
    | some d =>
      simp only [q1, Option.bind_some] at po
      cases q2 : keysG d with
      | none => simp only [q2] at po; exact po.elim
      | some ks =>
        simp only [q2] at po
        refine set_rep n.sim.fz (vw_of n.sim r1 q1) q2 fun pt hp => ?_
        refine te2 (n.newO hp) po fun y S2 v2 F2 H2 ρ2 n2 st r2 p2 => ?_
        cases q3 : y.view S2 with
        | none => simp only [q3, Option.bind_none] at p2; exact p2.elim
        | some d2 =>
          simp only [q3, Option.bind_some] at p2
          cases q4 : keysG d2 with
          | none => simp only [q4] at p2; exact p2.elim
          | some ls =>
            simp only [q4] at p2
            refine set_rep n2.sim.fz (vw_of n2.sim (r2.base (n.newO hp).stp.mono) q3) q4 fun pu hu => ?_
            have k1 := st.fr pt _ (n.sim.notin hp) upd_same
            have ne : pt ≠ pu := fun z => by
              rw [z, hu] at k1
              cases k1
            refine ⟨pt, pu, _, _, _, _, rfl, rfl, (upd_ne ne).trans k1, upd_same, fun r hr => ?_⟩
            rw [neSets_iff hr]
            exact fin_d (n2.newO hu) p2 (.bl _)
theorem je_neSet (hc : X.calm = true) (hu : X.A.units < cLine) (hg2 : Gl X "set") (hm2 : X.mg "set" = none) (h : JE X ca W a fa) (h2 : JE X ca W b fb) (he : starEach [a] X.env = (false, eval a X.env) :: starEach [] X.env := by rfl) (he2 : starEach [b] X.env = (false, eval b X.env) :: starEach [] X.env := by rfl)
    (hm : behindInMarks .NotEq (.Call (.Name "set" p2) [b] [] pos2) = false := by rfl) : JE X ca W (.Compare (.Call (.Name "set" p) [a] [] pos) [.NotEq] [.Call (.Name "set" p2) [b] [] pos2] pos3) (neSetE fa fb) :=
  imp_e (pe_cmpR (op_neSet hu) (pe_callTy (call_set1 hc) hg2 hm2 PyProof.Rows.boot_set (pa_cons h pa_nil he) (he := he)) (pe_callTy (call_set1 hc) hg2 hm2 PyProof.Rows.boot_set (pa_cons h2 pa_nil he2) (he := he2)) hm) fun σ H Q h => te_neSet h
theorem jt_neSet (hc : X.calm = true) (hu : X.A.units < cLine) (hg2 : Gl X "set") (hm2 : X.mg "set" = none) (h : JE X ca W a fa) (h2 : JE X ca W b fb) (he : starEach [a] X.env = (false, eval a X.env) :: starEach [] X.env := by rfl) (he2 : starEach [b] X.env = (false, eval b X.env) :: starEach [] X.env := by rfl)
    (hm : behindInMarks .NotEq (.Call (.Name "set" p2) [b] [] pos2) = false := by rfl) : JT X ca W (.Compare (.Call (.Name "set" p) [a] [] pos) [.NotEq] [.Call (.Name "set" p2) [b] [] pos2] pos3) (neSetE fa fb) :=
  imp_t (pt_cmpR (op_neSet hu) (pe_callTy (call_set1 hc) hg2 hm2 PyProof.Rows.boot_set (pa_cons h pa_nil he) (he := he)) (pe_callTy (call_set1 hc) hg2 hm2 PyProof.Rows.boot_set (pa_cons h2 pa_nil he2) (he := he2)) hm) fun σ H Q h => te_neSet (tt_te h)
end
theorem room0 {k : Nat} {A : Around} (r : Room k A) : A.units < cLine := by have := r.un; omega
/-! ### an own list or dict that is fixed at once -/
def fixE (f : DE) : DE := fun env S => (f env S).bind fun x S1 => match x.fixed with
  | some v => .ok v S1
  | none => .stuck
@[simp] theorem fixE_ap {f : DE} {env : Env} {S : Store} : fixE f env S = (f env S).bind fun x S1 => match x.fixed with
  | some v => .ok v S1
  | none => .stuck := rfl
section
variable {X : Cx} {ca : Str → Addr} {W : WX} {a : Expr} {f : DE}
theorem te_fix {K : PySem.W.Frag} {σ : L2.St} {H : Hp} {Q : VK} (h : dTE K ca W (fixE f) σ H Q) : dTE K ca W f σ H Q :=
  te1 h fun H0 F ρ S env s x S1 v F1 H1 ρ1 n r p => by
    cases q : x.fixed with
    | none => simp only [q] at p; exact p.elim
    | some x' =>
      simp only [q] at p
      obtain ⟨F2, n2, sm, r2⟩ := n.fixed s.old r q
      refine p v F2 H1 ρ1 n2 ?_
      cases x' with
      | bor xs => cases x <;> cases q
      | borD xs => cases x <;> cases q
      | _ => exact r2
theorem je_fix (h : JE X ca W a f) : JE X ca W a (fixE f) := imp_e h fun σ H Q h => te_fix h
end
end DL

set_option Elab.async false
set_option linter.all false
set_option maxRecDepth 100000
set_option maxHeartbeats 4000000
/-! DL22: objects of own classes: fields, methods, new ones. -/
namespace DL
open PySem PySem.Spec PyProof.Rows L2

/-! ### fields -/
def putE (f : Str) (v : EV) : List (Str × EV) → List (Str × EV)
  | [] => [(f, v)]
  | (g, x) :: r => if g = f then (g, v) :: r else (g, x) :: putE f v r
section
variable {R : V → EV → Prop}
theorem paired_look {f : Str} {ev : EV} : ∀ {vs : List (Str × V)} {fs : List (Str × EV)}, Paired (fun (p : Str × V) (q : Str × EV) => p.1 = q.1 ∧ R p.2 q.2) vs fs → fs.lookup f = some ev → ∃ v, vs.lookup f = some v ∧ R v ev
  | _, _, .nil, h => by cases h
  | (g, v) :: vs, (g2, e) :: fs, .cons r t, h => by
    obtain ⟨r1, r2⟩ := r
    simp only at r1 r2
    subst r1
    simp only [List.lookup] at h ⊢
    cases q : (f == g) with
    | true =>
      simp only [q] at h ⊢
      cases h
      exact ⟨v, rfl, r2⟩
    | false =>
      simp only [q] at h ⊢
      exact paired_look t h
theorem paired_none {f : Str} : ∀ {vs : List (Str × V)} {fs : List (Str × EV)}, Paired (fun (p : Str × V) (q : Str × EV) => p.1 = q.1 ∧ R p.2 q.2) vs fs → fs.lookup f = none → vs.lookup f = none
  | _, _, .nil, h => rfl
  | (g, v) :: vs, (g2, e) :: fs, .cons r t, h => by
    obtain ⟨r1, r2⟩ := r
    simp only at r1 r2
    subst r1
    simp only [List.lookup] at h ⊢
    cases q : (f == g) with
    | true => simp only [q] at h; cases h
    | false =>
      simp only [q] at h ⊢
      exact paired_none t h
theorem paired_put {f : Str} {v : V} {ev : EV} (hv : R v ev) : ∀ {vs : List (Str × V)} {fs : List (Str × EV)}, Paired (fun (p : Str × V) (q : Str × EV) => p.1 = q.1 ∧ R p.2 q.2) vs fs → Paired (fun (p : Str × V) (q : Str × EV) => p.1 = q.1 ∧ R p.2 q.2) (putF f v vs) (putE f ev fs)
  | _, _, .nil => .cons ⟨rfl, hv⟩ .nil
  | (g, u) :: vs, (g2, e) :: fs, .cons r t => by
    obtain ⟨r1, r2⟩ := r
    simp only at r1 r2
    subst r1
    unfold putF putE
    by_cases h : g = f
    · rw [if_pos h, if_pos h]
      exact .cons ⟨rfl, hv⟩ t
    · rw [if_neg h, if_neg h]
      exact .cons ⟨rfl, r2⟩ (paired_put hv t)
end
section
variable {K : PySem.W.Frag} {ca : Str → Addr} {W : WX} {H0 F H F1 H1 : Hp} {ρ ρ1 : List Addr} {S S1 : Store} {env : Env} {σ : L2.St} {v : V} {z : Ses}
/-- a cell is changed -/
theorem Sim.mutGen (s : Sim K ca H0 F ρ S env σ H) {l : Nat} {a : Addr} {c : Cell} {o : HO} (e : ρ[l]? = some a) (hc : CellRep K ca F ρ (upd H a o) a c) : Sim K ca H0 F ρ (S.set l c) env σ (upd H a o) := by
  have ha : a ∈ ρ := List.mem_of_getElem? e
  have hF := s.rfz a ha
  refine ⟨fun b o hb => ?_, by rw [List.length_set]; exact s.len, s.nd, s.rfz, fun k b c' e3 e4 => ?_, s.lenE, fun j ej h => ?_, s.ownD⟩
  · have : b ≠ a := fun z => by rw [z, hF] at hb; cases hb
    rw [upd_ne this]
    exact s.fz _ _ hb
  · rcases get_set e4 with ⟨h1, h2, h3⟩ | ⟨h1, h2⟩
    · subst h1 h3
      rw [e] at e3
      cases e3
      exact hc
    · have hb : b ≠ a := fun z => by
        subst z
        obtain ⟨g1, f1⟩ := List.getElem?_eq_some_iff.mp e3
        obtain ⟨g2, f2⟩ := List.getElem?_eq_some_iff.mp e
        exact h1 ((List.getElem_inj s.nd).mp (f1.trans f2.symm))
      have h := s.cell k b c' e3 h2
      cases c' with
      | lst cs =>
        obtain ⟨vs, q1, q2⟩ := h
        exact ⟨vs, by rw [upd_ne hb]; exact q1, q2⟩
      | obj cn fs =>
        obtain ⟨dx, vs, q1, q2⟩ := h
        exact ⟨dx, vs, by rw [upd_ne hb]; exact q1, q2⟩
  · obtain ⟨w, q1, q2⟩ := s.slot j ej h
    refine ⟨w, q1, ?_⟩
    cases ej with
    | own zs =>
      obtain ⟨b, vs, r1, r2, r3, r4, r5, r6⟩ := q2
      exact ⟨b, vs, r1, r2, by rw [upd_ne (show b ≠ a from fun z => r5 (by rw [z]; exact ha))]; exact r3, r4, r5, r6⟩
    | ownD zs =>
      obtain ⟨b, vs, r1, r2, r3, r4, r5, r6⟩ := q2
      exact ⟨b, vs, r1, r2, by rw [upd_ne (show b ≠ a from fun z => r5 (by rw [z]; exact ha))]; exact r3, r4, r5, r6⟩
    | d x => exact q2
    | bor x => exact q2
    | borD x => exact q2
    | ref x => exact q2
    | scr x => exact q2
    | opq x => exact q2
    | fn x => exact q2
    | tag x => exact q2
theorem SimS.mutGen (s : SimS K ca z F ρ S env σ H) {l : Nat} {a : Addr} {c : Cell} {o : HO} (e : ρ[l]? = some a) (hc : CellRep K ca F ρ (upd H a o) a c) : SimS K ca z F ρ (S.set l c) env σ (upd H a o) := by
  have ha : a ∈ ρ := List.mem_of_getElem? e
  have old : a ∈ z.r0 ∨ z.H0 a = none := by
    obtain ⟨new, e1, e2⟩ := s.stp.rho
    rw [e1] at ha
    rcases List.mem_append.mp ha with h | h
    · exact .inl h
    · exact .inr (e2 a h)
  refine ⟨s.sim.mutGen e hc, s.stp.fz, s.stp.nfz, s.stp.rho, fun b o h1 h2 => ?_, fun b hb => ?_⟩
  · have : b ≠ a := fun z => by
      rcases old with q | q
      · exact h1 (z ▸ q)
      · rw [z, q] at h2; cases h2
    rw [upd_ne this]
    exact s.stp.fr b o h1 h2
  · by_cases e : b = a
    · rw [e, upd_same] at hb
      cases hb
    · rw [upd_ne e] at hb
      exact s.stp.mono b hb
theorem repF_E {F : Hp} {ρ : List Addr} {B H : Hp} {v : V} {ev : EV} (h : RepF K F ρ v ev) : RepE K F ρ B env σ H v ev := by
  cases ev with
  | d x => exact h
  | ref l => exact h
  | _ => exact h.elim
end
/-- o.f, o an object of class c -/
def fldK (c f : Str) : EV → Store → RE := fun x S => match x with
  | .ref l => match S[l]? with
    | some (.obj c' fs) => if c' = c then (match fs.lookup f with
      | some ev => .ok ev S
      | none => .stuck) else .stuck
    | _ => .stuck
  | _ => .stuck
def fldE (c f : Str) (fo : DE) : DE := RE1 (fldK c f) fo
/-- what can be kept in a field -/
def EV.inF : EV → Bool
  | .d _ => true
  | .ref _ => true
  | _ => false
def fldPut (env : Env) (c f : Str) (ev : EV) : EV → Store → RS := fun o S => match o with
  | .ref l => match S[l]? with
    | some (.obj c' fs) => if c' = c ∧ fs.length < 1000 then .next env (S.set l (.obj c (putE f ev fs))) else .stuck
    | _ => .stuck
  | _ => .stuck
def fldS (c f : Str) (fo fv : DE) : DS := fun env S => (fv env S).bindS env fun x S1 => match x.fixed with
  | some ev => if ev.inF = true then (fo env S1).bindS env (fldPut env c f ev) else .stuck
  | none => .stuck
section
variable {X : Cx} {ca : Str → Addr} {W : WX} {e o value : Expr} {fo fv : DE} {c f : Str} {pos pos' : Pos}
theorem und_fld {K : PySem.W.Frag} (cl : Cls K (ca c)) (na : NoAttr K (ca c) f) : UnD K ca W (fun x H1 Q => ∃ a C dx fs v, x = .ref a ∧ H1 a = some (.ins C dx fs) ∧ Cls K C ∧ NoAttr K C f ∧ fs.lookup f = some v ∧ Q v H1) (fldK c f) := by
  intro H0 env σ F H ρ F' H' ρ' S' v1 x Q n r p
  unfold fldK at p
  cases x with
  | ref l =>
    simp only at p
    obtain ⟨a, e1, e2⟩ := r
    cases q : S'[l]? with
    | none => simp only [q] at p; exact p.elim
    | some cc =>
      cases cc with
      | lst xs => simp only [q] at p; exact p.elim
      | obj c' fs =>
        simp only [q] at p
        by_cases hc : c' = c
        · subst hc
          rw [if_pos rfl] at p
          obtain ⟨dx, vs, h1, h2⟩ := n.sim.cell l a _ e2 q
          cases q2 : fs.lookup f with
          | none => simp only [q2] at p; exact p.elim
          | some ev =>
            simp only [q2] at p
            obtain ⟨v, h3, h4⟩ := paired_look h2 q2
            exact ⟨a, _, dx, vs, v, e1, h1, cl, na, h3, p v F' H' ρ' n (repF_E h4)⟩
        · rw [if_neg hc] at p
          exact p.elim
  | _ => exact p.elim
theorem je_fld (cl : Cls X.K (ca c)) (na : NoAttr X.K (ca c) f) (h : JE X ca W e fo) (hb : attributeBase e f X.env (eval e X.env) = eval e X.env := by rfl) : JE X ca W (.Attribute e f pos) (fldE c f fo) :=
  imp_e (pe_fld h hb) fun σ H Q h => te_un (und_fld cl na) h
theorem js_fld (cl : Cls X.K (ca c)) (na : NoAttr X.K (ca c) f) (ho : JE X ca W o fo) (hv : JE X ca W value fv) (hs : swapsWith value (some (.Attribute o f pos')) pos.line X.env = pure false := by rfl) : JS X ca W (.Assign [.Attribute o f pos'] value pos) (fldS c f fo fv) := fun z =>
  imp_s (ps_fld ho hv hs) fun D σ H ⟨F, ρ, S, env, s, p⟩ =>
    ts1 (D := D) s p fun x S1 v F1 H1 ρ1 n s1 r p1 => by
      cases q : x.fixed with
      | none => simp only [q] at p1; exact p1.elim
      | some ev =>
        simp only [q] at p1
        by_cases hi : ev.inF = true
        · rw [if_pos hi] at p1
          obtain ⟨F2, s2, sm, rr⟩ := s.fixed n r q
          refine ts1 (D := D) s2 (p1.mono sm) fun y S2 v2 F3 H3 ρ3 n3 s3 r3 p3 => ?_
          unfold fldPut at p3
          cases y with
          | ref l =>
            simp only at p3
            obtain ⟨a, e1, e2⟩ := r3
            cases q2 : S2[l]? with
            | none => simp only [q2] at p3; exact p3.elim
            | some cc =>
              cases cc with
              | lst xs => simp only [q2] at p3; exact p3.elim
              | obj c' fs =>
                simp only [q2] at p3
                by_cases hc : c' = c ∧ fs.length < 1000
                · obtain ⟨hc, hl⟩ := hc
                  subst hc
                  rw [if_pos ⟨rfl, hl⟩] at p3
                  obtain ⟨dx, vs, h1, h2⟩ := s3.sim.cell l a _ e2 q2
                  have rv : RepF X.K F3 ρ3 v ev := by
                    cases ev with
                    | d x => exact Dr.mono n3.stp.fz rr
                    | ref l =>
                      obtain ⟨b, g1, g2⟩ := rr
                      exact ⟨b, g1, n3.stp.rget g2⟩
                    | _ => cases hi
                  refine ⟨a, _, dx, vs, e1, h1, cl, na, by rw [Paired.length h2]; exact hl, p3 σ F3 _ ρ3 (Same.refl _) (s3.mutGen e2 ⟨dx, _, upd_same, paired_put rv h2⟩)⟩
                · rw [if_neg hc] at p3
                  exact p3.elim
          | _ => exact p3.elim
        · rw [if_neg hi] at p1
          exact p1.elim
end
end DL

set_option Elab.async false
set_option linter.all false
set_option maxRecDepth 100000
set_option maxHeartbeats 4000000
/-! DL23: methods, new objects. -/
namespace DL
open PySem PySem.Spec PyProof.Rows L2

/-- a promise by positional values -/
abbrev JR (P : Program) (w : World) (K : PySem.W.Frag) (mg : Str → Option Value) (base : Heap) (ca : Str → Addr) (k : Nat) (f : Addr) (n : Nat) (Ff : DF) : Prop :=
  FnR P w K mg base (L2.CX P w) k f (spD K ca n Ff)
theorem JF.r {P : Program} {w : World} {K : PySem.W.Frag} {mg : Str → Option Value} {base : Heap} {ca : Str → Addr} {k : Nat} {f : Addr} {fd : FuncData} {ps : List Str} {Ff : DF} (F : JF P w K mg base ca k f fd ps Ff) (hb : Binds K fd ps []) : JR P w K mg base ca k f ps.length Ff :=
  (FnOk.raw F hb .nil).imp fun vs H Q E h => by rw [List.append_nil]; exact h
section
variable {X : Cx} {CX : CXT} {k : Nat} {f C : Addr} {sp : Sp} {E : L2.St → XK} {x m : Str} {p pos apos : Pos} {e o : Expr} {es : List Expr} {ta : TE} {t : TA}
theorem run_fnRS {pins : List (Addr × Obj)} {σ : L2.St} {H : Hp} {s : Shared} {Q : VK} {us : List Value} {vs : List V} (F : FnR X.prog X.w X.K X.mg X.base CX k f sp) (hr : Room k X.A) (hx : PassesAt CX X σ (E σ)) (I : Inv X pins σ H s) (r : Vals vs us) (h : sp vs H Q (E σ)) :
    wpAny (model X.prog X.w) X.A (call (.ref f) us) (EP X pins σ Q) X.xe s := by
  refine wpAny_call (codeAny_mono (F X.A X.stack s H us vs Q (E σ) hr I.env0 r h) fun r s' hq => ?_)
  cases r with
  | error e => exact hx pins H s e s' I hq
  | ok fl =>
    cases fl with
    | ret u => exact I.after hq
    | next => exact False.elim hq
    | brk => exact False.elim hq
    | cont => exact False.elim hq
/-- o.m(e, ..) -/
def tMethR (C : Addr) (m : Str) (sp : Sp) (E : L2.St → XK) (ta : TE) (t : TA) : TE := fun σ H Q => ta σ H fun x H1 => ∃ a dx fs, x = .ref a ∧ H1 a = some (.ins C dx fs) ∧ fs.lookup m = none ∧ t σ H1 fun vs H2 => sp (x :: vs) H2 Q (E σ)
theorem pe_methR {pl : Sem Bool} (he : PE X o ta) (c : Cls X.K C) (hm : Meth X.K C m f) (F : FnR X.prog X.w X.K X.mg X.base CX k f sp) (hr : Room k X.A) (hx : ∀ σ, PassesAt CX X σ (E σ)) (ha : PA X (e :: es) t)
    (hst : starEach (e :: es) X.env = (false, eval e X.env) :: starEach es X.env := by rfl) (hpl : (backTo pos (starEach es X.env)).any (·.1) = false := by rfl)
    (ht : eval (.Call (.Attribute o m apos) (e :: es) [] pos) X.env = (do
      let ov ← eval o X.env
      standAt apos.atName
      let (f, first) ← holding [ov] (getMethod ov m pl)
      callWith pos f first (backTo pos (starEach (e :: es) X.env)) (backToKw pos (keywordEach [] X.env))) := by rfl) :
    PE X (.Call (.Attribute o m apos) (e :: es) [] pos) (tMethR C m sp E ta t) := by
  refine ⟨fun pins s σ H Q I h => ?_⟩
  refine PySem.W.methodCall_KW (pl := pl) (thn (he.run pins s σ H _ I h) fun u s1 ⟨x, H1, I1, rx, a, dx, fs, ex, ea, l, q⟩ => ?_) ht
  subst ex
  obtain rfl : u = Value.ref a := rx
  refine getmeth_ok I1 ea c hm l ?_
  refine PySem.W.callWith_K (first := [.ref a]) (h₀ := X.base) I.ok.mod.kin hm.kp (thn (ha.run pos pins s1 σ H1 _ I1 q) fun us s2 ⟨vs, H2, I2, r, q2⟩ => ⟨I2.kIn, ?_⟩) hst hpl
  exact run_fnRS (us := .ref a :: us) (vs := .ref a :: vs) F hr (hx σ) I2 (.cons rfl r) q2
theorem pe_methR0 {pl : Sem Bool} (he : PE X o ta) (c : Cls X.K C) (hm : Meth X.K C m f) (F : FnR X.prog X.w X.K X.mg X.base CX k f sp) (hr : Room k X.A) (hx : ∀ σ, PassesAt CX X σ (E σ))
    (ht : eval (.Call (.Attribute o m apos) [] [] pos) X.env = (do
      let ov ← eval o X.env
      standAt apos.atName
      let (f, first) ← holding [ov] (getMethod ov m pl)
      callWith pos f first (backTo pos (starEach [] X.env)) (backToKw pos (keywordEach [] X.env))) := by rfl) :
    PE X (.Call (.Attribute o m apos) [] [] pos) (tMethR C m sp E ta tNil) := by
  refine ⟨fun pins s σ H Q I h => ?_⟩
  refine PySem.W.methodCall_KW (pl := pl) (thn (he.run pins s σ H _ I h) fun u s1 ⟨x, H1, I1, rx, a, dx, fs, ex, ea, l, q⟩ => ?_) ht
  subst ex
  obtain rfl : u = Value.ref a := rx
  refine getmeth_ok I1 ea c hm l ?_
  exact PySem.W.callWith_K0 (first := [.ref a]) I1.kIn hm.kp (run_fnRS (us := [.ref a]) (vs := [.ref a]) F hr (hx σ) I1 (.cons rfl .nil) q)
/-- C(..): a new object, then __init__ by its positional promise -/
theorem run_makeRS {pins : List (Addr × Obj)} {σ : L2.St} {H : Hp} {s : Shared} {Q : VK} {us : List Value} {vs : List V} (M : Mk X.K C f) (F : FnR X.prog X.w X.K X.mg X.base CX k f sp) (hr : Room (k + 1) X.A) (hx : PassesAt CX X σ (E σ)) (I : Inv X pins σ H s) (r : Vals vs us)
    (h : ∀ x dx, H x = none → H dx = none → dx ≠ x → sp (V.ref x :: vs) (upd (upd H dx (.own x)) x (.ins C dx [])) (fun v H2 => v = .non ∧ Q (.ref x) H2) (E σ)) :
    wpAny (model X.prog X.w) X.A (call (.ref C) us) (EP X pins σ Q) X.xe s := by
  have hq := h (s.heap.objs.size + 1) s.heap.objs.size (I.hok.fresh (Nat.le_succ _)) (I.hok.fresh (Nat.le_refl _)) (Nat.ne_of_lt (Nat.lt_succ_self _))
  have I2 := Inv.made (C := C) I
  have r2 : Vals (V.ref (s.heap.objs.size + 1) :: vs) (Value.ref (s.heap.objs.size + 1) :: us) := .cons rfl r
  refine wpAny_call (make_map (f := f) I.kIn M.makes M.init (beq_iff_eq.mp M.fn) (codeAny_mono (F _ X.stack _ _ (Value.ref (s.heap.objs.size + 1) :: us) _ _ (E σ) (hr.make C us []) (I2.env0.make C us []) r2 hq) fun r s' hq' => ?_))
  cases r with
  | error e => exact hx pins _ _ e s' I2 hq'
  | ok fl =>
    cases fl with
    | ret u =>
      obtain ⟨v, H', I3, rv, ev, q3⟩ := I2.after hq'
      subst ev
      exact ⟨rv, ⟨V.ref (s.heap.objs.size + 1), H', I3, rfl, q3⟩⟩
    | next => exact False.elim hq'
    | brk => exact False.elim hq'
    | cont => exact False.elim hq'
def tMakeS (C : Addr) (sp : Sp) (E : L2.St → XK) (t : TA) : TE := fun σ H Q => t σ H fun vs H1 => ∀ x dx, H1 x = none → H1 dx = none → dx ≠ x → sp (V.ref x :: vs) (upd (upd H1 dx (.own x)) x (.ins C dx [])) (fun v H2 => v = .non ∧ Q (.ref x) H2) (E σ)
theorem pe_makeRS (M : Mk X.K C f) (F : FnR X.prog X.w X.K X.mg X.base CX k f sp) (hr : Room (k + 1) X.A) (hg : Gl X x) (hm : X.mg x = some (.ref C)) (hx : ∀ σ, PassesAt CX X σ (E σ)) (ha : PA X (e :: es) t) (hdb : (x == ("__debug__" : Str)) = false := by decide)
    (he : starEach (e :: es) X.env = (false, eval e X.env) :: starEach es X.env := by rfl) (hpl : (backTo pos (starEach es X.env)).any (·.1) = false := by rfl) : PE X (.Call (.Name x p) (e :: es) [] pos) (tMakeS C sp E t) := by
  refine ⟨fun pins s σ H Q I h => ?_⟩
  refine wpAny_Call_Name_kw (ld_glob I hg hm ?_ hdb)
  refine PySem.W.callWith_K (h₀ := X.base) I.ok.mod.kin M.kp (thn (ha.run pos pins s σ H _ I h) fun us s1 ⟨vs, H1, I1, r, q⟩ => ⟨I1.kIn, ?_⟩) he hpl
  exact run_makeRS M F hr (hx σ) I1 r q
theorem pe_makeRS0 (M : Mk X.K C f) (F : FnR X.prog X.w X.K X.mg X.base CX k f sp) (hr : Room (k + 1) X.A) (hg : Gl X x) (hm : X.mg x = some (.ref C)) (hx : ∀ σ, PassesAt CX X σ (E σ)) (hdb : (x == ("__debug__" : Str)) = false := by decide) : PE X (.Call (.Name x p) [] [] pos) (tMakeS C sp E tNil) := by
  refine ⟨fun pins s σ H Q I h => ?_⟩
  refine wpAny_Call_Name_kw (ld_glob I hg hm ?_ hdb)
  exact PySem.W.callWith_K0 I.kIn M.kp (run_makeRS (us := []) M F hr (hx σ) I .nil h)
/-- C(*e) -/
theorem pe_makeRSt {te : TE} {sp_ : Pos} (M : Mk X.K C f) (F : FnR X.prog X.w X.K X.mg X.base CX k f sp) (hr : Room (k + 1) X.A) (hg : Gl X x) (hm : X.mg x = some (.ref C)) (hx : ∀ σ, PassesAt CX X σ (E σ)) (he : PE X e te) (hdb : (x == ("__debug__" : Str)) = false := by decide)
    (hst : starEach [.Starred e sp_] X.env = [(true, eval e X.env)] := by rfl) : PE X (.Call (.Name x p) [.Starred e sp_] [] pos) (tMakeS C sp E (fun σ H Q => te σ H fun y H1 => ∃ a xs, y = V.ref a ∧ (SqT X.K H1 a xs ∨ SqL X.K H1 a xs) ∧ Q xs H1)) := by
  refine ⟨fun pins s σ H Q I h => ?_⟩
  refine wpAny_Call_Name_kw (ld_glob I hg hm ?_ hdb)
  refine PySem.W.callWith_S (h₀ := X.base) I.ok.mod.kin M.kp (thn (he.run pins s σ H _ I h) fun v s1 ⟨y, H1, I1, ry, a, xs, ey, hxs, q⟩ => ?_) hst
  subst ey
  obtain rfl : v = Value.ref a := ry
  exact StX.star_any I1 hxs fun us s2 I2 rv => ⟨I2.kIn, run_makeRS M F hr (hx σ) I2 rv q⟩
end

section
variable {K : PySem.W.Frag} {ca : Str → Addr} {W : WX} {H0 F H F1 H1 : Hp} {ρ ρ1 : List Addr} {S S1 : Store} {env : Env} {σ : L2.St} {v : V} {Q : VK}
theorem ta2 {as : DA} {k : List EV → Store → RE} {R : List V → Hp → Prop} (n : Now K ca H0 env σ F H ρ F1 H1 ρ1 S1) (p : PostE K ca W H0 env σ F H ρ Q ((as env S1).bind k))
    (hk : ∀ xs S2 vs F2 H2 ρ2, as env S1 = .ok xs S2 → Now K ca H0 env σ F H ρ F2 H2 ρ2 S2 → Stp F1 H1 ρ1 F2 H2 ρ2 → Paired (fun v r => RepV K F2 ρ2 H1 H2 v r) vs xs → PostE K ca W H0 env σ F H ρ Q (k xs S2) → R vs H2) : dTA K ca W as σ H1 R := by
  refine ⟨H0, F1, ρ1, S1, env, n.sim, ?_⟩
  cases q : as env S1 with
  | ok xs S2 =>
    simp only [q, RA.bind] at p
    exact fun vs F2 H2 ρ2 n2 r => hk xs S2 vs F2 H2 ρ2 q ⟨n.stp.trans n2.stp, n2.sim⟩ n2.stp r p
  | raise e S2 =>
    simp only [q, RA.bind] at p
    exact fun cls d F2 H2 ρ2 n2 r => p cls d F2 H2 ρ2 ⟨n.stp.trans n2.stp, n2.sim⟩ r
  | stuck =>
    simp only [q, RA.bind] at p
    exact p.elim
/-- a new object -/
theorem Now.newObj (n : Now K ca H0 env σ F H ρ F1 H1 ρ1 S1) {c : Str} {x dx : Addr} (hx : H1 x = none) (hd : H1 dx = none) (hne : dx ≠ x) : Now K ca H0 env σ F H ρ F1 (upd (upd H1 dx (.own x)) x (.ins (ca c) dx [])) (ρ1 ++ [x]) (S1 ++ [.obj c []]) := by
  have n1 := n.newO (o := .own x) hd
  have hx1 : upd H1 dx (.own x) x = none := by rw [upd_ne (fun z => hne z.symm)]; exact hx
  have n2 := n1.newO (o := .ins (ca c) dx []) hx1
  have s := n2.sim
  have hxH : H x = none := n.stp.mono x hx
  have xr : x ∉ ρ1 := n.sim.notin hx
  have hget : ∀ (k : Nat) (b : Addr), ρ1[k]? = some b → (ρ1 ++ [x])[k]? = some b := fun k b h => by
    rw [List.getElem?_append_left (List.getElem?_eq_some_iff.mp h).1]
    exact h
  refine ⟨⟨n2.stp.fz, n2.stp.nfz, ?_, n2.stp.fr, n2.stp.mono⟩, ⟨s.fz, by rw [List.length_append, List.length_append, s.len]; rfl, ?_, fun b hb => ?_, fun k b c' h1 h2 => ?_, s.lenE, fun j ej h => ?_, s.ownD⟩⟩
  · obtain ⟨new, q1, q2⟩ := n2.stp.rho
    refine ⟨new ++ [x], by rw [q1, List.append_assoc], fun b hb => ?_⟩
    rcases List.mem_append.mp hb with h | h
    · exact q2 b h
    · simp at h
      rw [h]
      exact hxH
  · rw [List.nodup_append]
    refine ⟨s.nd, by simp, fun b hb c hc => ?_⟩
    simp at hc
    subst hc
    exact fun q => xr (q ▸ hb)
  · rcases List.mem_append.mp hb with h | h
    · exact s.rfz b h
    · simp at h
      rw [h]
      exact n.sim.unfz hx
  · by_cases hk : k < ρ1.length
    · rw [List.getElem?_append_left hk] at h1
      rw [List.getElem?_append_left (by rw [← s.len]; exact hk)] at h2
      have h := s.cell k b c' h1 h2
      cases c' with
      | lst cs => exact h
      | obj cn fs =>
        obtain ⟨dx, vs, q1, q2⟩ := h
        exact ⟨dx, vs, q1, Paired.mapP q2 fun p q z => ⟨z.1, RepF.mono (Same.refl _) hget z.2⟩⟩
    · rw [List.getElem?_append_right (by omega)] at h1
      rw [List.getElem?_append_right (by rw [← s.len]; omega)] at h2
      rw [← s.len] at h2
      cases q : k - ρ1.length with
      | zero =>
        rw [q] at h1 h2
        cases h1
        cases h2
        exact ⟨dx, [], upd_same, .nil⟩
      | succ m =>
        rw [q] at h1
        simp at h1
  · obtain ⟨w, q1, q2⟩ := s.slot j ej h
    refine ⟨w, q1, ?_⟩
    cases ej with
    | own zs =>
      obtain ⟨b, us, r1, r2, r3, r4, r5, r6⟩ := q2
      refine ⟨b, us, r1, r2, r3, r4, fun hb => ?_, r6⟩
      rcases List.mem_append.mp hb with q | q
      · exact r5 q
      · simp at q
        subst r1 q
        have := n.sim.own_at h rfl q1
        exact this.2.2.2 hx
    | ownD zs =>
      obtain ⟨b, us, r1, r2, r3, r4, r5, r6⟩ := q2
      refine ⟨b, us, r1, r2, r3, r4, fun hb => ?_, r6⟩
      rcases List.mem_append.mp hb with q | q
      · exact r5 q
      · simp at q
        subst r1 q
        have := n.sim.own_at h rfl q1
        exact this.2.2.2 hx
    | d x => exact q2
    | bor x => exact q2
    | borD x => exact q2
    | ref l =>
      obtain ⟨b, r1, r2⟩ := q2
      exact ⟨b, r1, hget _ _ r2⟩
    | scr x => exact q2
    | opq x => exact q2
    | fn x => exact q2
    | tag x => exact q2
end
/-! ### o.m(e, ..) -/
def methK (c m : Str) (Ff : DF) (as : DA) (env : Env) : EV → Store → RE := fun x S => match x with
  | .ref l => match S[l]? with
    | some (.obj c' fs) => if c' = c ∧ fs.lookup m = none then (as env S).bind fun xs S2 => Ff (.ref l :: xs) S2 else .stuck
    | _ => .stuck
  | _ => .stuck
def methE (c m : Str) (Ff : DF) (fo : DE) (as : DA) : DE := fun env S => (fo env S).bind (methK c m Ff as env)
/-- C(..) -/
def makeK (c : Str) (Ff : DF) : List EV → Store → RE := fun xs S => match Ff (.ref S.length :: xs) (S ++ [.obj c []]) with
  | .ok (.d .none) S2 => .ok (.ref S.length) S2
  | .raise e S2 => .raise e S2
  | _ => .stuck
def makeE (c : Str) (Ff : DF) (as : DA) : DE := fun env S => (as env S).bind (makeK c Ff)
section
variable {X : Cx} {ca : Str → Addr} {W : WX} {k : Nat} {f : Addr} {Ff : DF} {c m x : Str} {p pos apos : Pos} {e o : Expr} {es : List Expr} {fo : DE} {fs : List DE}
theorem te_meth {K : PySem.W.Frag} {σ : L2.St} {H : Hp} {Q : VK} {n : Nat} (hl : n = fs.length + 1) (h : dTE K ca W (methE c m Ff fo (asL fs)) σ H Q) : tMethR (ca c) m (spD K ca n Ff) (WE W) (dTE K ca W fo) (dTA K ca W (asL fs)) σ H Q :=
  te1 h fun H0 F ρ S env s x S1 v F1 H1 ρ1 n r p => by
    unfold methK at p
    cases x with
    | ref l =>
      simp only at p
      obtain ⟨a, e1, e2⟩ := r
      cases q : S1[l]? with
      | none => simp only [q] at p; exact p.elim
      | some cc =>
        cases cc with
        | lst xs => simp only [q] at p; exact p.elim
        | obj c' gs =>
          simp only [q] at p
          by_cases hc : c' = c ∧ gs.lookup m = none
          · obtain ⟨hc, hn⟩ := hc
            subst hc
            rw [if_pos ⟨rfl, hn⟩] at p
            obtain ⟨dx, vs, h1, h2⟩ := n.sim.cell l a _ e2 q
            refine ⟨a, dx, vs, e1, h1, paired_none h2 hn, ta2 n p fun xs S2 us F2 H2 ρ2 ex n2 st r2 p2 => ?_⟩
            refine ⟨by rw [hl, List.length_cons, Paired.length r2, asL_len _ _ _ _ _ ex], F2, ρ2, S2, .ref l :: xs, sim_base n2.sim, .cons ⟨⟨a, e1, st.rget e2⟩, rfl⟩ (paired_and r2 fun b hb a q => ⟨by
              have ho := asL_own _ _ _ _ _ ex b hb
              cases b with
              | own x => cases ho
              | ownD x => cases ho
              | _ => exact q, asL_own _ _ _ _ _ ex b hb⟩), post_call n2 p2⟩
          · rw [if_neg hc] at p
            exact p.elim
    | _ => exact p.elim
theorem je_meth {n : Nat} {pl : Sem Bool} (F : JR X.prog X.w X.K X.mg X.base ca k f n Ff) (hr : Room k X.A) (tk : Takes X W) (cl : Cls X.K (ca c)) (hm : Meth X.K (ca c) m f) (ho : JE X ca W o fo) (ha : JA X ca W (e :: es) (asL fs)) (hl : n = fs.length + 1 := by rfl)
    (hst : starEach (e :: es) X.env = (false, eval e X.env) :: starEach es X.env := by rfl) (hpl : (backTo pos (starEach es X.env)).any (·.1) = false := by rfl)
    (ht : eval (.Call (.Attribute o m apos) (e :: es) [] pos) X.env = (do
      let ov ← eval o X.env
      standAt apos.atName
      let (f, first) ← holding [ov] (getMethod ov m pl)
      callWith pos f first (backTo pos (starEach (e :: es) X.env)) (backToKw pos (keywordEach [] X.env))) := by rfl) : JE X ca W (.Call (.Attribute o m apos) (e :: es) [] pos) (methE c m Ff fo (asL fs)) :=
  imp_e (pe_methR ho cl hm F hr (fun σ => passAt tk σ) ha hst hpl ht) fun σ H Q h => te_meth hl h
theorem je_meth0 {pl : Sem Bool} (F : JR X.prog X.w X.K X.mg X.base ca k f 1 Ff) (hr : Room k X.A) (tk : Takes X W) (cl : Cls X.K (ca c)) (hm : Meth X.K (ca c) m f) (ho : JE X ca W o fo)
    (ht : eval (.Call (.Attribute o m apos) [] [] pos) X.env = (do
      let ov ← eval o X.env
      standAt apos.atName
      let (f, first) ← holding [ov] (getMethod ov m pl)
      callWith pos f first (backTo pos (starEach [] X.env)) (backToKw pos (keywordEach [] X.env))) := by rfl) : JE X ca W (.Call (.Attribute o m apos) [] [] pos) (methE c m Ff fo (asL [])) :=
  imp_e (pe_methR0 ho cl hm F hr (fun σ => passAt tk σ) ht) fun σ H Q h => by
    have := te_meth (n := 1) (fs := []) rfl h
    unfold tMethR at this ⊢
    exact te_mono (fun x H1 ⟨a, dx, fs, e1, e2, e3, z⟩ => ⟨a, dx, fs, e1, e2, e3, ta_nil _ _ _ z⟩) this
/-- the callee of a making -/
theorem make_run {K : PySem.W.Frag} {H0 F H F1 H1 : Hp} {ρ ρ1 : List Addr} {S1 : Store} {env : Env} {σ : L2.St} {Q : VK} {n : Nat} {vs : List V} {xs : List EV} (nw : Now K ca H0 env σ F H ρ F1 H1 ρ1 S1) (hl : vs.length + 1 = n)
    (r : Paired (fun v r => RepV K F1 ρ1 H H1 v r ∧ r.isOwn = false) vs xs) (p : PostE K ca W H0 env σ F H ρ Q (makeK c Ff xs S1)) (a dx : Addr) (hx : H1 a = none) (hd : H1 dx = none) (hne : dx ≠ a) :
    spD K ca n Ff (V.ref a :: vs) (upd (upd H1 dx (.own a)) a (.ins (ca c) dx [])) (fun v H2 => v = .non ∧ Q (.ref a) H2) (WE W σ) := by
  have n3 := nw.newObj (c := c) hx hd hne
  have st := (Now.newObj (c := c) (⟨Stp.refl _ _ _, nw.sim⟩ : Now K ca H0 env σ F1 H1 ρ1 F1 H1 ρ1 S1) hx hd hne).stp
  have hget : (ρ1 ++ [a])[S1.length]? = some a := by rw [← nw.sim.len]; simp
  refine ⟨by rw [List.length_cons]; exact hl, F1, ρ1 ++ [a], S1 ++ [.obj c []], .ref S1.length :: xs, sim_base n3.sim, .cons ⟨⟨a, rfl, hget⟩, rfl⟩ (paired_and r fun b hb v q => ⟨?_, q.2⟩), ?_⟩
  · have q1 := RepV.step st q.1
    have q2 := q.2
    cases b with
    | own x => cases q2
    | ownD x => cases q2
    | _ => exact q1
  · unfold makeK at p
    revert p
    cases Ff (.ref S1.length :: xs) (S1 ++ [.obj c []]) with
    | ok y S2 =>
      cases y with
      | d y =>
        cases y with
        | none => exact fun p v F2 H2 ρ2 st2 s2 rr => ⟨by cases rr; rfl, p (.ref a) F2 H2 ρ2 ⟨n3.stp.trans st2, n3.sim.after st2 s2⟩ ⟨a, rfl, st2.rget hget⟩⟩
        | _ => exact fun p => p.elim
      | _ => exact fun p => p.elim
    | raise e S2 => exact fun p cls d F2 H2 ρ2 st2 s2 rr => p cls d F2 H2 ρ2 ⟨n3.stp.trans st2, n3.sim.after st2 s2⟩ rr
    | stuck => exact fun p => p.elim
theorem te_make {K : PySem.W.Frag} {σ : L2.St} {H : Hp} {Q : VK} {n : Nat} (hl : n = fs.length + 1) (h : dTE K ca W (makeE c Ff (asL fs)) σ H Q) : tMakeS (ca c) (spD K ca n Ff) (WE W) (dTA K ca W (asL fs)) σ H Q :=
  ta_end h fun H0 F ρ S env s xs S1 vs F1 H1 ρ1 ex n r p => fun a dx hx hd hne =>
    make_run n (by rw [Paired.length r, asL_len _ _ _ _ _ ex, hl]) (paired_and r fun b hb v q => ⟨q, asL_own _ _ _ _ _ ex b hb⟩) p a dx hx hd hne
theorem je_make {n : Nat} (M : Mk X.K (ca c) f) (F : JR X.prog X.w X.K X.mg X.base ca k f n Ff) (hr : Room (k + 1) X.A) (tk : Takes X W) (hg : Gl X x) (hm : X.mg x = some (.ref (ca c))) (ha : JA X ca W (e :: es) (asL fs)) (hl : n = fs.length + 1 := by rfl) (hdb : (x == ("__debug__" : Str)) = false := by decide)
    (he : starEach (e :: es) X.env = (false, eval e X.env) :: starEach es X.env := by rfl) (hpl : (backTo pos (starEach es X.env)).any (·.1) = false := by rfl) : JE X ca W (.Call (.Name x p) (e :: es) [] pos) (makeE c Ff (asL fs)) :=
  imp_e (pe_makeRS M F hr hg hm (fun σ => passAt tk σ) ha hdb he hpl) fun σ H Q h => te_make hl h
theorem je_make0 (M : Mk X.K (ca c) f) (F : JR X.prog X.w X.K X.mg X.base ca k f 1 Ff) (hr : Room (k + 1) X.A) (tk : Takes X W) (hg : Gl X x) (hm : X.mg x = some (.ref (ca c))) (hdb : (x == ("__debug__" : Str)) = false := by decide) : JE X ca W (.Call (.Name x p) [] [] pos) (makeE c Ff (asL [])) :=
  imp_e (pe_makeRS0 M F hr hg hm (fun σ => passAt tk σ) hdb) fun σ H Q h => by
    have := te_make (n := 1) (fs := []) rfl h
    unfold tMakeS at this ⊢
    exact ta_nil _ _ _ this
end
/-- C(*e) -/
def makeStE (c : Str) (Ff : DF) (fe : DE) : DE := fun env S => (fe env S).bind fun x S1 => match x.view S1 with
  | some (.tuple ds) => makeK c Ff (ds.map .d) S1
  | some (.list ds) => makeK c Ff (ds.map .d) S1
  | _ => .stuck
theorem paired_d {K : PySem.W.Frag} {F B H : Hp} {ρ : List Addr} : ∀ {vs : List V} {ds : List PyData}, DrAll K F vs ds → Paired (fun v r => RepV K F ρ B H v r ∧ r.isOwn = false) vs (ds.map .d)
  | _, _, .nil => .nil
  | _, _, .cons h t => .cons ⟨h, rfl⟩ (paired_d t)
section
variable {X : Cx} {ca : Str → Addr} {W : WX} {k : Nat} {f : Addr} {Ff : DF} {c x : Str} {p pos sp_ : Pos} {e : Expr} {fe : DE}
theorem je_makeSt (M : Mk X.K (ca c) f) (F : ∀ n, JR X.prog X.w X.K X.mg X.base ca k f n Ff) (hr : Room (k + 1) X.A) (tk : Takes X W) (hg : Gl X x) (hm : X.mg x = some (.ref (ca c))) (he : JE X ca W e fe) (hdb : (x == ("__debug__" : Str)) = false := by decide)
    (hst : starEach [.Starred e sp_] X.env = [(true, eval e X.env)] := by rfl) : JE X ca W (.Call (.Name x p) [.Starred e sp_] [] pos) (makeStE c Ff fe) := by
  have F' : FnR X.prog X.w X.K X.mg X.base (L2.CX X.prog X.w) k f (fun vs H Q E => spD X.K ca vs.length Ff vs H Q E) := fun A outer s H us vs Q E hr e0 r hs => F vs.length A outer s H us vs Q E hr e0 r hs
  refine imp_e (pe_makeRSt M F' hr hg hm (fun σ => passAt tk σ) he hdb hst) fun σ H Q h => ?_
  refine te1 (k := fun _ x S1 => match x.view S1 with
    | some (.tuple ds) => makeK c Ff (ds.map .d) S1
    | some (.list ds) => makeK c Ff (ds.map .d) S1
    | _ => .stuck) h fun H0 F ρ S env s x S1 v F1 H1 ρ1 n r po => ?_
  cases q : x.view S1 with
  | none => simp only [q] at po; exact po.elim
  | some d =>
    have vw := vw_of n.sim r q
    cases d with
    | tuple ds =>
      simp only [q] at po
      cases vw with
      | tup h1 d1 => exact ⟨_, _, rfl, .inl (same_t n.sim.fz h1), fun a dx hx hd hne => make_run n (by simp) (paired_d d1) po a dx hx hd hne⟩
    | list ds =>
      simp only [q] at po
      obtain ⟨b, vs, e1, h1, d1⟩ := vw
      exact ⟨b, vs, e1, .inr (SqL.of h1), fun a dx hx hd hne => make_run n (by simp) (paired_d d1) po a dx hx hd hne⟩
    | _ => simp only [q] at po; exact po.elim
end
/-! ### def f(a, .., *v) -/
def starF (m : Nat) (Fb : DF) : DF := fun evs S => if evs.length < m then .stuck else match allD (evs.drop m) with
  | some ds => if ds.length ≤ 1000 then Fb (evs.take m ++ [.d (.tuple ds)]) S else .stuck
  | none => .stuck
end DL

set_option Elab.async false
set_option linter.all false
set_option maxRecDepth 100000
set_option maxHeartbeats 4000000
/-! DL24: defs with a star parameter. -/
namespace DL
open PySem PySem.Spec PyProof.Rows L2

section
variable {P : Program} {w : World} {K : PySem.W.Frag} {mg : Str → Option Value} {base : Heap} {ca : Str → Addr}
/-- a def's body runs from its arguments -/
theorem body_run {qual : Str} {body : List Stmt} {scope : Scope} {f : Addr} {cdv : Value} {A : Around} {outer : List PySem.Env} {s : Shared} {N : List Str} {n : Nat} {g : DS} {vs : List V} {H : Hp} {Q : VK} {E : XK}
    (hb : JSs (cxOf (L2.CX P w) P w K mg base N qual scope f cdv A outer s H E) ca (fun cls d _ H => E cls d H) body g) (h : spD K ca n (fnD N.length g) vs H Q E) :
    ∃ t, PSs (cxOf (L2.CX P w) P w K mg base N qual scope f cdv A outer s H E) body t ∧ t { nx := fun _ H' => Q .non H', rt := Q } (L2.start N vs) H := by
  obtain ⟨hl, F, ρ, St, evs, sim, pr, po⟩ := h
  refine ⟨_, hb ⟨H, F, ρ⟩, F, ρ, St, evs.map some ++ List.replicate (N.length - evs.length) none, ⟨⟨sim.fz, sim.len, sim.nd, sim.rfz, sim.cell, ?_, fun i ev e => ?_, fun i j ei ej a e1 e2 o1 o2 => ?_⟩, Stp.refl _ _ _⟩, ?_⟩
  · unfold L2.start
    have := Paired.length pr
    rw [List.length_append, List.length_append, List.length_map, List.length_map, List.length_replicate, List.length_replicate, this]
  · obtain ⟨v, e1, e2, e3⟩ := start_slot pr i ev e
    unfold L2.start
    rw [Paired.length pr]
    exact ⟨v, e1, e2⟩
  · obtain ⟨v, _, _, e3⟩ := start_slot pr i ei e1
    rw [e3] at o1
    cases o1
  · unfold fnD at po
    revert po
    cases q : g (evs.map some ++ List.replicate (N.length - evs.length) none) St with
    | next env' S' => exact fun po σ' F' H' ρ' f' s' => po .non F' H' ρ' s'.stp (sim_drop s'.sim) .non
    | ret v S' => exact fun po v F' H' ρ' st s' r => po v F' H' ρ' st s' r
    | raise e env' S' => exact fun po cls d σ' F' H' ρ' f' s' r => po cls d F' H' ρ' s'.stp (sim_drop s'.sim) r
    | brk env' S' => exact fun po => po.elim
    | cont env' S' => exact fun po => po.elim
    | stuck => exact fun po => po.elim
theorem paired_take {α β : Type} {R : α → β → Prop} : ∀ {l : List α} {m : List β} (k : Nat), Paired R l m → Paired R (l.take k) (m.take k) ∧ Paired R (l.drop k) (m.drop k)
  | _, _, 0, h => ⟨by rw [List.take_zero, List.take_zero]; exact .nil, h⟩
  | _, _, k + 1, .nil => ⟨.nil, .nil⟩
  | _, _, k + 1, .cons a t => ⟨.cons a (paired_take k t).1, (paired_take k t).2⟩
theorem paired_app {α β : Type} {R : α → β → Prop} : ∀ {l l' : List α} {m m' : List β}, Paired R l m → Paired R l' m' → Paired R (l ++ l') (m ++ m')
  | _, _, _, _, .nil, h => h
  | _, _, _, _, .cons a t, h => .cons a (paired_app t h)
theorem star_sp {n m : Nat} {Fb : DF} {vs : List V} {H : Hp} {Q : VK} {E : XK} (h : spD K ca n (starF m Fb) vs H Q E) : ∃ ws rest, vs = ws ++ rest ∧ ws.length = m ∧ rest.length ≤ sizeLine ∧ ∀ p, H p = none → spD K ca (m + 1) Fb (ws ++ [V.ref p]) (upd H p (.tup rest)) Q E := by
  obtain ⟨hl, F, ρ, St, evs, sim, pr, po⟩ := h
  unfold starF at po
  by_cases hm : evs.length < m
  · rw [if_pos hm] at po
    exact po.elim
  · rw [if_neg hm] at po
    cases q : allD (evs.drop m) with
    | none => simp only [q] at po; exact po.elim
    | some ds =>
      simp only [q] at po
      by_cases hz : ds.length ≤ 1000
      · rw [if_pos hz] at po
        obtain ⟨p1, p2⟩ := paired_take m pr
        obtain ⟨r1, r2⟩ := allD_rep (K := K) (F := F) (ρ := ρ) (paired_and p2 fun b _ a z => z.1) q
        have le := Paired.length pr
        refine ⟨vs.take m, vs.drop m, (List.take_append_drop m vs).symm, by rw [List.length_take]; omega, ?_, fun p hp => ?_⟩
        · have h1 : (vs.drop m).length = ds.length := r1.length
          have h2 : (1000 : Nat) ≤ sizeLine := by decide
          omega
        · have n1 := Now.newT (vs := vs.drop m) (⟨Stp.refl _ _ _, sim⟩ : Now K ca H [] [] F H ρ F H ρ St) hp
          have hF := sim.unfz hp
          have last : RepV K (upd F p (.tup (vs.drop m))) ρ (upd H p (.tup (vs.drop m))) (upd H p (.tup (vs.drop m))) (.ref p) (.d (.tuple ds)) := show Dr K _ _ _ from .tup (.inl (.inl upd_same)) (r1.mono (same_fix hF))
          refine ⟨by rw [List.length_append, List.length_take, List.length_singleton]; omega, _, ρ, St, evs.take m ++ [.d (.tuple ds)], sim_base n1.sim, paired_app (paired_and p1 fun b _ v z => ⟨?_, z.2⟩) (.cons ⟨last, rfl⟩ .nil), ?_⟩
          · have q1 := RepV.step n1.stp z.1
            have q2 := z.2
            cases b with
            | own x => cases q2
            | ownD x => cases q2
            | _ => exact q1
          · revert po
            cases Fb (evs.take m ++ [.d (.tuple ds)]) St with
            | ok r S2 => exact fun po v F2 H2 ρ2 st s2 rr => po v F2 H2 ρ2 (n1.stp.trans st) (sim_base s2) (rr.base n1.stp.mono)
            | raise e S2 => exact fun po cls d F2 H2 ρ2 st s2 rr => po cls d F2 H2 ρ2 (n1.stp.trans st) (sim_base s2) rr
            | stuck => exact fun po => po
      · rw [if_neg hz] at po
        exact po.elim
/-- from a body to a def with a star parameter -/
theorem star_mk {x qual pv : Str} {params : Arguments} {body : List Stmt} {scope : Scope} {f : Addr} {fd : FuncData} {N ps : List Str} {k : Nat} {g : DS} (Fd : FunD K x qual params body scope [] [] f fd) (S : FnScope N (ps ++ [pv]) scope)
    (h : ∀ (kV doc pm : Value) (an : Option Addr) (cdv ct : Value) (us rest : List Value), us.length = ps.length → bindArgs (PySem.W.fnOf x qual params body scope .none kV doc pm an cdv ct) ⟨us ++ rest, []⟩ = (newTuple rest >>= fun t => pure (ps.zip us ++ [(pv, t)])))
    (hb : ∀ (cdv : Value) (A : Around) (outer : List PySem.Env) (s : Shared) (H : Hp) (E : XK), Room k (A.deeper (envOfC qual scope s.heap.objs.size f cdv)) →
      JSs (cxOf (L2.CX P w) P w K mg base N qual scope f cdv A outer s H E) ca (fun cls d _ H => E cls d H) body g) (n : Nat) :
    JR P w K mg base ca (k + 1) f n (starF ps.length (fnD N.length g)) := by
  obtain ⟨oc, od, dV, kV, doc, pm, an, cdv, ct, osl, rfl, lk, hcd, hD, hK⟩ := Fd.ex
  rcases hD with ⟨_, rfl⟩ | ⟨e, _⟩
  · exact (StX.fn_star (sp := spD K ca (ps.length + 1) (fnD N.length g)) lk hcd S StX.cxUp (h kV doc pm an cdv ct) fun A outer s H vs Q E hr hs => body_run (hb cdv A outer s H E hr) hs).imp fun vs H Q E hs => star_sp hs
  · exact absurd rfl e
end
end DL

set_option Elab.async false
set_option linter.all false
set_option maxRecDepth 100000
set_option maxHeartbeats 4000000
/-! DL25: own classes: isinstance, operators by own methods, properties. -/
namespace DL
open PySem PySem.Spec PyProof.Rows L2

/-- an own class that isinstance is asked of -/
structure IsC (K : PySem.W.Frag) (C : Addr) : Prop where
  cl : Cls K C
  at_ : PySem.W.findIn K (.ref C) "__class__" = some (some (.builtin "object.__class__"))
  get : PySem.W.specialIn K (.builtin "object.__class__") "__get__" = some (some (.builtin "getset_descriptor.__get__"))
  tak : PySem.W.takesIn K (.builtin "object.__class__") = some true
  mro : PySem.W.mroIn K C (.type "object") = some true
  own : PySem.W.kitOne K (.ref C) (.ref C) = some true
  ty : ∀ T, T ∈ ["NoneType", "bool", "int", "str", "list", "tuple", "dict"] → PySem.W.kitOne K (.type T) (.ref C) = some false
def isiCK (c : Str) : EV → Store → RE := fun x S => match x with
  | .ref l => match S[l]? with
    | some (.obj c' _) => if c' = c then .ok (bE true) S else .stuck
    | some (.lst _) => .ok (bE false) S
    | none => .stuck
  | .tag .lo => .ok (bE false) S
  | x => match x.view S with
    | some _ => .ok (bE false) S
    | none => .stuck
def isiCE (c : Str) (fa : DE) : DE := RE1 (isiCK c) fa
theorem tyD_mem (a : PyData) : tyD a ∈ ["NoneType", "bool", "int", "str", "list", "tuple", "dict"] := by cases a <;> simp [tyD]
theorem und_isiC {K : PySem.W.Frag} {ca : Str → Addr} {W : WX} {c : Str} (ic : IsC K (ca c)) : UnD K ca W (fun v H Q => rIsi K [v, .ref (ca c)] H Q) (isiCK c) := by
  intro H0 env σ F H ρ F' H' ρ' S' v1 x Q n r p
  have data : ∀ d, x.view S' = some d → PostE K ca W H0 env σ F H ρ Q (.ok (bE false) S') → rIsi K [v1, .ref (ca c)] H' Q := fun d q p =>
    ⟨v1, .ref (ca c), _, .ref (ca c), false, rfl, .own _, ty_rep n.sim.fz (vw_of n.sim r q), ic.ty _ (tyD_mem d), fin_d n p (.bl _)⟩
  unfold isiCK at p
  split at p
  · rename_i l
    obtain ⟨a, e1, e2⟩ := id r
    split at p
    · rename_i c' fs q
      split at p
      · rename_i hc
        subst hc
        obtain ⟨dx, vs, h1, h2⟩ := n.sim.cell l a _ e2 q
        subst e1
        exact ⟨.ref a, .ref (ca c'), .ref (ca c'), .ref (ca c'), true, rfl, .own _, .base (.ins h1 ic.cl ic.at_ ic.get ic.tak ic.mro), ic.own, fin_d n p (.bl _)⟩
      · exact p.elim
    · rename_i xs q
      exact data (.list xs) (by unfold EV.view; simp only [q]) p
    · exact p.elim
  · obtain ⟨a, vs, e1, e2⟩ := r
    subst e1
    exact ⟨.ref a, .ref (ca c), .type "list", .ref (ca c), false, rfl, .own _, .base (.lst (n.sim.fz _ _ e2)), ic.ty "list" (by simp), fin_d n p (.bl _)⟩
  · split at p
    · rename_i q
      exact data _ q p
    · exact p.elim
/-- a field, its class told -/
theorem und_fldC {K : PySem.W.Frag} {ca : Str → Addr} {W : WX} {c f : Str} : UnD K ca W (fun x H1 Q => ∃ a dx fs v, x = .ref a ∧ H1 a = some (.ins (ca c) dx fs) ∧ fs.lookup f = some v ∧ Q v H1) (fldK c f) := by
  intro H0 env σ F H ρ F' H' ρ' S' v1 x Q n r p
  unfold fldK at p
  split at p
  · obtain ⟨a, e1, e2⟩ := r
    split at p
    · rename_i c' fs q
      split at p
      · rename_i hc
        subst hc
        obtain ⟨dx, vs, h1, h2⟩ := n.sim.cell _ a _ e2 q
        split at p
        · rename_i ev q2
          obtain ⟨v, h3, h4⟩ := paired_look h2 q2
          exact ⟨a, dx, vs, v, e1, h1, h3, p v F' H' ρ' n (repF_E h4)⟩
        · exact p.elim
      · exact p.elim
    · exact p.elim
  · exact p.elim
section
variable {X : Cx} {ca : Str → Addr} {W : WX} {a : Expr} {fa : DE} {c x : Str} {p p2 pos : Pos}
theorem je_isiC (ic : IsC X.K (ca c)) (hg : Gl X "isinstance") (hm : X.mg "isinstance" = none) (hgC : Gl X x) (hmC : X.mg x = some (.ref (ca c))) (h : JE X ca W a fa) (hx : (x == ("__debug__" : Str)) = false := by decide) (he : starEach [a, .Name x p2] X.env = (false, eval a X.env) :: starEach [.Name x p2] X.env := by rfl)
    (he2 : starEach [.Name x p2] X.env = (false, eval (.Name x p2) X.env) :: starEach [] X.env := by rfl) : JE X ca W (.Call (.Name "isinstance" p) [a, .Name x p2] [] pos) (isiCE c fa) :=
  imp_e (pe_callB call_isi hg hm PyProof.Rows.boot_isinstance (pa_cons h (pa_cons (pe_glob (v := .ref (ca c)) hgC hmC rfl hx) pa_nil he2) he) (he := he) (hpl := by rw [he2]; rfl)) fun σ H Q h => te_un (und_isiC ic) h
/-- o.f by a property that gives the field g -/
theorem je_prop {f g : Str} {e : Expr} {fo : DE} {pa ga : Addr} {k : Nat} {fd : FuncData} (cl : Cls X.K (ca c)) (na : NoAttr X.K (ca c) g) (hp : PropOf X.K (ca c) f pa ga)
    (F : FnOk X.prog X.w X.K X.mg X.base (fun _ _ _ _ _ _ => False) k ga fd ["self"] (getSp (ca c) g)) (hb : Binds X.K fd ["self"] []) (hr : Room (k + 1) X.A) (h : JE X ca W e fo) (hab : attributeBase e f X.env (eval e X.env) = eval e X.env := by rfl) : JE X ca W (.Attribute e f pos) (fldE c g fo) :=
  imp_e (pe_prop (E := fun _ _ _ => False) h cl hp F hr hb .nil (fun _ _ _ _ _ _ _ z => z) hab) fun σ H Q h => by
    exact te_mono (fun x H1 ⟨a, dx, fs, v, e1, e2, e3, q⟩ => ⟨a, dx, fs, e1, e2, a, dx, fs, v, rfl, e2, e3, q⟩) (te_un und_fldC h)
end
end DL

set_option Elab.async false
set_option linter.all false
set_option maxRecDepth 100000
set_option maxHeartbeats 4000000
/-! DL26: operators by own methods. -/
namespace DL
open PySem PySem.Spec PyProof.Rows L2

abbrev tys : List String := ["NoneType", "bool", "int", "str", "list", "tuple", "dict"]
/-- an own class C answers the operator by the method at f -/
structure OpC (K : PySem.W.Frag) (C f : Addr) (op : Operator) : Prop where
  cl : Cls K C
  first : PySem.W.selfFirst K C = true
  at_ : PySem.W.findIn K (.ref C) (PySem.dunder op.info.2) = some (some (.ref f))
  fn : PySem.W.isFn K (.ref f) = true
  r : PySem.W.findIn K (.ref C) (dunderR op.info.2) = some none
  ty : ∀ T, T ∈ tys → (PySem.W.findIn K (.type T) (PySem.dunder op.info.2)).isSome = true ∧ (PySem.W.findIn K (.type T) (dunderR op.info.2)).isSome = true ∧ PySem.W.subIn K (.type T) (.ref C) = some false
section
open PySem.W
variable {prog : Program} {w : World} {A : Around} {E : Value → Shared → Prop} {s : Shared} {K : Frag} {x C f : Addr} {ox : Obj} {od : Option Obj}
/-- a op b, a an instance of C, b of a built-in type -/
theorem own_binT {op : Operator} {b : Value} {T : String} {Q : Value → Shared → Prop} (X : K.In s.heap) (I : InstAt s.heap x ox C od) (hb : Looks (model prog w) s.heap (typeOf b) (.type T)) (c : OpC K C f op) (hT : T ∈ tys)
    (h : wpAny (model prog w) A (call (.ref f) [.ref x, b]) (PySem.W.CmpBack Q) E s) : wpAny (model prog w) A (binaryOp op (.ref x) b) Q E s := by
  obtain ⟨t1, t2, t3⟩ := c.ty T hT
  obtain ⟨fo, h1⟩ := Option.isSome_iff_exists.mp t1
  obtain ⟨ro, h2⟩ := Option.isSome_iff_exists.mp t2
  obtain ⟨cd, rest, hcd, hm⟩ := ksp_first c.first
  have hs := c.at_
  have hr := c.r
  rcases hi : op.info with ⟨sym, nm⟩
  rw [hi] at hs hr h1 h2
  dsimp only at hs hr h1 h2
  have one := ksp_try X I hs c.fn h
  obtain ⟨hh, g, d, tt, os⟩ := s
  have la : Looks (model prog w) hh (typeOf (.ref x)) (.ref C) := I.type
  have lb : Looks (model prog w) hh (typeOf b) (.type T) := hb
  have l1 : Looks (model prog w) hh (fillsNumberSlot (.ref C) nm) true := fills_K X hcd hm hs
  have l2 : Looks (model prog w) hh (fillsNumberSlot (.type T) nm) ((fo.isSome && !isSeqSlot fo) || (ro.isSome && !isSeqSlot ro)) := ksp_fillsT X h1 h2
  have l3 : Looks (model prog w) hh (isSubtype (.type T) (.ref C)) false := looks_subIn X t3
  have l4 : Looks (model prog w) hh (numberSlotInPython (.ref C) nm) true := ksp_inPy X hs hr (.inl rfl)
  have l5 : Looks (model prog w) hh (numberSlotInPython (.type T) nm) false := Looks.of_pure rfl
  have l6 : Looks (model prog w) hh (typeLookup (.type T) (dunderR nm)) ro := looks_findIn X h2
  generalize ((fo.isSome && !isSeqSlot fo) || (ro.isSome && !isSeqSlot ro)) = right at l2
  have ne : (Value.ref C == Value.type T) = false := Bool.eq_false_iff.mpr fun q => nomatch beq_iff_eq.mp q
  simp only [binaryOp, hi]
  refine wpAny_holding (wpAny_bind ?_)
  unfold binaryOp1
  refine wpAny_bind (la.at (wpAny_bind (lb.at (wpAny_bind (l1.at ?_)))))
  simp only [ne, Bool.false_eq_true, if_false]
  cases right
  all_goals
    ksp_lk
    refine wpAny_mono one (fun r s' ⟨v, er, hq⟩ => ?_) fun _ _ e => e
    subst er
    ksp_lk
    exact hq
/-- a op b, both instances of C -/
theorem own_binS {op : Operator} {b : Value} {Q : Value → Shared → Prop} (X : K.In s.heap) (I : InstAt s.heap x ox C od) (hb : Looks (model prog w) s.heap (typeOf b) (.ref C)) (c : OpC K C f op)
    (h : wpAny (model prog w) A (call (.ref f) [.ref x, b]) (PySem.W.CmpBack Q) E s) : wpAny (model prog w) A (binaryOp op (.ref x) b) Q E s := by
  obtain ⟨cd, rest, hcd, hm⟩ := ksp_first c.first
  have hs := c.at_
  rcases hi : op.info with ⟨sym, nm⟩
  rw [hi] at hs
  dsimp only at hs
  have one := ksp_try X I hs c.fn h
  obtain ⟨hh, g, d, tt, os⟩ := s
  have la : Looks (model prog w) hh (typeOf (.ref x)) (.ref C) := I.type
  have lb : Looks (model prog w) hh (typeOf b) (.ref C) := hb
  have l1 : Looks (model prog w) hh (fillsNumberSlot (.ref C) nm) true := fills_K X hcd hm hs
  simp only [binaryOp, hi]
  refine wpAny_holding (wpAny_bind ?_)
  unfold binaryOp1
  refine wpAny_bind (la.at (wpAny_bind (lb.at (wpAny_bind (l1.at ?_)))))
  simp only [beq_self_eq_true, if_true]
  ksp_lk
  refine wpAny_mono one (fun r s' ⟨v, er, hq⟩ => ?_) fun _ _ e => e
  subst er
  ksp_lk
  exact hq
/-- a op= b, a an instance of C -/
theorem own_aug {op : Operator} {b : Value} {Q : Value → Shared → Prop} (X : K.In s.heap) (I : InstAt s.heap x ox C od) (hc : selfFirst K C = true) (hs : findIn K (.ref C) (dunderI op.info.2) = some (some (.ref f))) (hf : isFn K (.ref f) = true)
    (h : wpAny (model prog w) A (call (.ref f) [.ref x, b]) (PySem.W.CmpBack Q) E s) : wpAny (model prog w) A (inplaceOp op (.ref x) b) Q E s := by
  obtain ⟨cd, rest, hcd, hm⟩ := ksp_first hc
  have one := ksp_try X I hs hf h
  obtain ⟨hh, g, d, tt, os⟩ := s
  have la : Looks (model prog w) hh (typeOf (.ref x)) (.ref C) := I.type
  have l1 : Looks (model prog w) hh (fillsInplaceSlot (.ref C) op.info.2 (op == .Add)) true := ksp_fillsI X hcd hm hs
  unfold inplaceOp
  refine wpAny_holding ?_
  ksp_lk
  refine wpAny_mono one (fun r s' ⟨v, er, hq⟩ => ?_) fun _ _ e => e
  subst er
  ksp_lk
  exact hq
end
theorem ep_back {X : Cx} {pins : List (Addr × Obj)} {σ : L2.St} {Q : VK} {v : Value} {s' : Shared} (h : EP X pins σ Q v s') : PySem.W.CmpBack (EP X pins σ Q) v s' := by
  obtain ⟨x, H', I, r, q⟩ := id h
  cases v with
  | notImplemented =>
    cases x with
    | non => cases (show Value.notImplemented = Value.none from r)
    | bl b => cases (show Value.notImplemented = Value.bool b from r)
    | int i => obtain ⟨t, e⟩ := (show ∃ t, Value.notImplemented = Value.int i t from r); cases e
    | str i => obtain ⟨t, e⟩ := (show ∃ t, Value.notImplemented = Value.str i t from r); cases e
    | byt i => obtain ⟨t, e⟩ := (show ∃ t, Value.notImplemented = Value.bytes i t from r); cases e
    | flt i => obtain ⟨t, e⟩ := (show ∃ t, Value.notImplemented = Value.float i t from r); cases e
    | ref a => cases (show Value.notImplemented = Value.ref a from r)
    | ty n => cases (show Value.notImplemented = Value.type n from r)
  | _ => exact h
/-- what may stand at the right -/
def TyR (K : PySem.W.Frag) (C : Addr) (H : Hp) (y : V) : Prop := ∃ t, TyX K H y t ∧ ((∃ T, T ∈ tys ∧ t = .type T) ∨ t = .ref C)
section
variable {X : Cx} {CX : CXT} {k i : Nat} {f C : Addr} {sp : Sp} {E : L2.St → XK} {op : Operator} {a b e : Expr} {ta tb te : TE} {x : Str} {pos pos' : Pos}
def tOwn (K : PySem.W.Frag) (C : Addr) (sp : Sp) (E : L2.St → XK) (ta tb : TE) : TE := fun σ H Q => ta σ H fun x H1 => tb σ H1 fun y H2 => ∃ ad dx fs, x = .ref ad ∧ H2 ad = some (.ins C dx fs) ∧ TyR K C H2 y ∧ sp [x, y] H2 Q (E σ)
theorem pe_own (c : OpC X.K C f op) (F : FnR X.prog X.w X.K X.mg X.base CX k f sp) (hr : Room k X.A) (hx : ∀ σ, PassesAt CX X σ (E σ)) (ha : PE X a ta) (hb : PE X b tb) : PE X (.BinOp a op b pos) (tOwn X.K C sp E ta tb) := by
  refine ⟨fun pins s σ H Q I h => wpAny_BinOp (binT ha hb I h fun v u s2 x y H2 I2 rx ry ⟨ad, dx, fs, ex, ea, ⟨t, ty, ht⟩, q⟩ => ?_)⟩
  obtain ⟨mA, O, _⟩ := ins_get I2.hok ea
  obtain ⟨od, J, _⟩ := O.look
  obtain ⟨P, Z, p, _⟩ := kit_of I2 ry ty
  subst ex
  cases (show v = Value.ref ad from rx)
  have run := wpAny_mono (run_fnRS (us := [.ref ad, u]) (vs := [.ref ad, y]) F hr (hx σ) I2 (.cons rfl (.cons ry .nil)) q) (fun v s' z => ep_back z) fun _ _ z => z
  have lk := Z.ty (model X.prog X.w) s2.heap I2.kIn p
  rcases ht with ⟨T, hT, rfl⟩ | rfl
  · exact own_binT I2.kIn J lk c hT run
  · exact own_binS I2.kIn J lk c run
/-- name op= e, an own object -/
def tOwnAug (C : Addr) (sp : Sp) (E : L2.St → XK) (i : Nat) (te : TE) : TS := fun D σ H => ∃ x, σ[i]? = some (some x) ∧ te σ H fun y H1 => ∃ ad dx fs, x = .ref ad ∧ H1 ad = some (.ins C dx fs) ∧ sp [x, y] H1 (fun z H2 => D.nx (σ.set i (some z)) H2) (E σ)
theorem ps_own (hc : PySem.W.selfFirst X.K C = true) (hs : PySem.W.findIn X.K (.ref C) (dunderI op.info.2) = some (some (.ref f))) (hf : PySem.W.isFn X.K (.ref f) = true) (F : FnR X.prog X.w X.K X.mg X.base CX k f sp) (hr : Room k X.A) (hx : ∀ σ, PassesAt CX X σ (E σ))
    (hN : X.N.Nodup) (hi : X.N[i]? = some x) (hl : X.env.scope.names.lookup x = some .local) (he : PE X e te) : PS X (.AugAssign (.Name x pos') op e pos) (tOwnAug C sp E i te) := by
  refine ⟨fun pins s σ H D I ⟨v, e1, h⟩ => ?_⟩
  obtain ⟨m, hn, look⟩ := I.loc
  obtain ⟨u, r, l⟩ := look i x v hi e1 (.inl hl)
  refine wpAny_AugAssign_Name ?_
  rcases l with ⟨hk, hm⟩ | ⟨hk, c, hc, hcell⟩
  · refine wpAny_loadName_local I.ok.kind hk hn hm (thn (he.run pins s σ H _ I h) fun w s1 ⟨y, H1, I1, r1, ad, dx, fs, ex, ea, q⟩ => ?_)
    obtain ⟨mA, O, _⟩ := ins_get I1.hok ea
    obtain ⟨od, J, _⟩ := O.look
    subst ex
    cases (show u = Value.ref ad from r)
    refine own_aug I1.kIn J hc hs hf (wpAny_mono (run_fnRS (us := [.ref ad, w]) (vs := [.ref ad, y]) F hr (hx σ) I1 (.cons rfl (.cons r1 .nil)) q) (fun z s2 q2 => ?_) fun _ _ z => z)
    have back : EP X pins σ (fun z H2 => D.nx (σ.set i (some z)) H2) z s2 := q2
    have := ep_back back
    revert this
    have go : wpAny (model X.prog X.w) X.A (storeName X.env x z) (fun _ => SP X pins D .next) X.xe s2 := by
      obtain ⟨zv, H2, I2, r2, q3⟩ := back
      exact store_ok I2 hN hi (.inl hl) r2 (fun s3 I3 => ⟨_, H2, I3, q3⟩) (.inr hl)
    cases z with
    | notImplemented => exact fun z => z.elim
    | _ => exact fun _ => go
  · rcases hk with hk | hk
    · have z : X.env.scope.names.lookup x = some .cell := hk
      rw [hl] at z
      cases z
    · have z : X.env.scope.names.lookup x = some .free := hk
      rw [hl] at z
      cases z
end
end DL

set_option Elab.async false
set_option linter.all false
set_option maxRecDepth 100000
set_option maxHeartbeats 4000000
/-! DL27: the reckonings of operators by own methods. -/
namespace DL
open PySem PySem.Spec PyProof.Rows L2

/-- what may stand at the right of an own object of class c -/
def okTy (c : Str) (S : Store) : EV → Bool
  | .d _ => true
  | .ref l => match S[l]? with
    | some (.obj c' _) => decide (c' = c)
    | some (.lst _) => true
    | none => false
  | .tag .lo => true
  | _ => false
def ownK (c : Str) (Ff : DF) : EV → EV → Store → RE := fun x y S => match x, y.fixed with
  | .ref l, some y' => match S[l]? with
    | some (.obj c' _) => if c' = c ∧ okTy c S y' = true then Ff [.ref l, y'] S else .stuck
    | _ => .stuck
  | _, _ => .stuck
def ownE (c : Str) (Ff : DF) (fa fb : DE) : DE := RE2 (ownK c Ff) fa fb
section
variable {K : PySem.W.Frag} {ca : Str → Addr} {W : WX} {H0 F H F1 H1 : Hp} {ρ ρ1 : List Addr} {S S1 : Store} {env : Env} {σ : L2.St} {v : V} {ev : EV} {Q : VK} {c : Str} {Ff : DF}
theorem tyR_of (ic : IsC K (ca c)) (s : Sim K ca H0 F ρ S env σ H) (r : RepV K F ρ H1 H v ev) (h : okTy c S ev = true) : TyR K (ca c) H v := by
  cases ev with
  | d x => exact ⟨_, ty_rep s.fz (vw_dr s.fz (show Dr K F v x from r)), .inl ⟨_, tyD_mem x, rfl⟩⟩
  | ref l =>
    obtain ⟨a, e1, e2⟩ := r
    unfold okTy at h
    cases q : S[l]? with
    | none => simp only [q] at h; cases h
    | some cc =>
      cases cc with
      | obj c' fs =>
        simp only [q] at h
        have e := of_decide_eq_true h
        subst e
        obtain ⟨dx, vs, h1, _⟩ := s.cell l a _ e2 q
        subst e1
        exact ⟨_, .base (.ins h1 ic.cl ic.at_ ic.get ic.tak ic.mro), .inr rfl⟩
      | lst xs =>
        obtain ⟨vs, h1, d1⟩ := s.cell l a _ e2 q
        subst e1
        exact ⟨.type "list", .base (.lst h1), .inl ⟨"list", by simp, rfl⟩⟩
  | tag t =>
    cases t with
    | lo =>
      obtain ⟨a, vs, e1, e2⟩ := r
      subst e1
      exact ⟨.type "list", .base (.lst (s.fz _ _ e2)), .inl ⟨"list", by simp, rfl⟩⟩
  | _ => cases h
theorem rep_self (r : RepV K F ρ H1 H v ev) (o : ev.isOwn = false) : RepV K F ρ H H v ev := by
  cases ev with
  | own x => cases o
  | ownD x => cases o
  | _ => exact r
theorem te_own {fa fb : DE} (ic : IsC K (ca c)) (h : dTE K ca W (ownE c Ff fa fb) σ H Q) : tOwn K (ca c) (spD K ca 2 Ff) (WE W) (dTE K ca W fa) (dTE K ca W fb) σ H Q :=
  te1 h fun H0 F ρ S env s x S1 v F1 H1 ρ1 n r1 p => te2 n p fun y S2 v2 F2 H2 ρ2 n2 st r2 p2 => by
    unfold ownK at p2
    cases x with
    | ref l =>
      obtain ⟨a, e1, e2⟩ := r1
      cases q : y.fixed with
      | none => simp only [q] at p2; exact p2.elim
      | some y' =>
        simp only [q] at p2
        cases q2 : S2[l]? with
        | none => simp only [q2] at p2; exact p2.elim
        | some cc =>
          cases cc with
          | lst xs => simp only [q2] at p2; exact p2.elim
          | obj c' fs =>
            simp only [q2] at p2
            by_cases hc : c' = c ∧ okTy c S2 y' = true
            · rw [if_pos hc] at p2
              obtain ⟨hc, ht⟩ := hc
              subst hc
              obtain ⟨F3, n3, sm, r3⟩ := n2.fixed s.old (r2.base n.stp.mono) q
              have g2 := st.rget e2
              obtain ⟨dx, vs, h1, _⟩ := n3.sim.cell l a _ g2 q2
              exact ⟨a, dx, vs, e1, h1, tyR_of ic n3.sim r3 ht, rfl, F3, ρ2, S2, [.ref l, y'], sim_base n3.sim, .cons ⟨⟨a, e1, g2⟩, rfl⟩ (.cons ⟨rep_self r3 (fixed_own q), fixed_own q⟩ .nil), post_call n3 p2⟩
            · rw [if_neg hc] at p2
              exact p2.elim
    | _ => exact p2.elim
end
section
variable {X : Cx} {ca : Str → Addr} {W : WX} {k i : Nat} {f : Addr} {Ff : DF} {c x : Str} {op : Operator} {a b e : Expr} {fa fb fe : DE} {pos pos' : Pos}
/-- a op b, a an own object -/
theorem je_own (ic : IsC X.K (ca c)) (oc : OpC X.K (ca c) f op) (F : JR X.prog X.w X.K X.mg X.base ca k f 2 Ff) (hr : Room k X.A) (tk : Takes X W) (ha : JE X ca W a fa) (hb : JE X ca W b fb) : JE X ca W (.BinOp a op b pos) (ownE c Ff fa fb) :=
  imp_e (pe_own oc F hr (fun σ => passAt tk σ) ha hb) fun σ H Q h => te_own ic h
end
/-- name op= e, an own object -/
def ownS (i : Nat) (c : Str) (Ff : DF) (fe : DE) : DS := fun env S => match env[i]? with
  | some (some (.ref l)) => (fe env S).bindS env fun y S1 => match y.fixed, S1[l]? with
    | some y', some (.obj c' _) => if c' = c then (Ff [.ref l, y'] S1).bindS env fun r S2 => match r.fixed with
      | some ev => .next (env.set i (some ev)) S2
      | none => .stuck
      else .stuck
    | _, _ => .stuck
  | _ => .stuck
section
variable {X : Cx} {ca : Str → Addr} {W : WX} {k i : Nat} {f : Addr} {Ff : DF} {c x : Str} {op : Operator} {e : Expr} {fe : DE} {pos pos' : Pos}
theorem js_own (hc : PySem.W.selfFirst X.K (ca c) = true) (hs : PySem.W.findIn X.K (.ref (ca c)) (dunderI op.info.2) = some (some (.ref f))) (hf : PySem.W.isFn X.K (.ref f) = true) (F : JR X.prog X.w X.K X.mg X.base ca k f 2 Ff) (hr : Room k X.A) (tk : Takes X W)
    (hN : X.N.Nodup) (hi : X.N[i]? = some x) (hl : X.env.scope.names.lookup x = some .local) (he : JE X ca W e fe) : JS X ca W (.AugAssign (.Name x pos') op e pos) (ownS i c Ff fe) := fun z =>
  imp_s (ps_own hc hs hf F hr (fun σ => passAt tk σ) hN hi hl he) fun D σ H ⟨F, ρ, S, env, s, p⟩ => by
    unfold ownS at p
    cases q0 : env[i]? with
    | none => simp only [q0] at p; exact p.elim
    | some o =>
      cases o with
      | none => simp only [q0] at p; exact p.elim
      | some ev =>
        cases ev with
        | ref l =>
          simp only [q0] at p
          obtain ⟨v, e1, r0⟩ := s.sim.slot i _ q0
          obtain ⟨a, g1, g2⟩ := r0
          refine ⟨v, e1, ts1 (D := D) s p fun y S1 v1 F1 H1 ρ1 n s1 r p1 => ?_⟩
          cases q : y.fixed with
          | none => simp only [q] at p1; exact p1.elim
          | some y' =>
            simp only [q] at p1
            cases q2 : S1[l]? with
            | none => simp only [q2] at p1; exact p1.elim
            | some cc =>
              cases cc with
              | lst xs => simp only [q2] at p1; exact p1.elim
              | obj c' fs =>
                simp only [q2] at p1
                by_cases hc : c' = c
                · subst hc
                  rw [if_pos rfl] at p1
                  obtain ⟨F2, s2, sm, r2⟩ := s.fixed n r q
                  have g3 := n.stp.rget g2
                  obtain ⟨dx, vs, h1, _⟩ := s2.sim.cell l a _ g3 q2
                  refine ⟨a, dx, vs, g1, h1, rfl, F2, ρ1, S1, [.ref l, y'], sim_base s2.sim, .cons ⟨⟨a, g1, g3⟩, rfl⟩ (.cons ⟨rep_self r2 (fixed_own q), fixed_own q⟩ .nil), ?_⟩
                  revert p1
                  cases Ff [.ref l, y'] S1 with
                  | ok r S2 =>
                    intro p1 u F3 H3 ρ3 st s3 rr
                    have n3 : Now X.K ca z.H0 env σ F2 H1 ρ1 F3 H3 ρ3 S2 := ⟨st, s2.sim.after st s3⟩
                    simp only [RE.bindS] at p1
                    cases q3 : r.fixed with
                    | none => simp only [q3] at p1; exact p1.elim
                    | some ev =>
                      simp only [q3] at p1
                      obtain ⟨F4, s4, sm4, r4⟩ := s2.fixed n3 (RepE.ofV rr) q3
                      exact p1 _ F4 H3 ρ3 ((sm.trans st.fz).trans sm4) (s4.setSlot i r4 fun o => by rw [fixed_own q3] at o; cases o)
                  | raise e S2 =>
                    intro p1 cls d F3 H3 ρ3 st s3 rr
                    have n3 : Now X.K ca z.H0 env σ F2 H1 ρ1 F3 H3 ρ3 S2 := ⟨st, s2.sim.after st s3⟩
                    exact p1 cls d σ F3 H3 ρ3 (sm.trans st.fz) (s2.on n3) rr
                  | stuck => exact fun p1 => p1.elim
                · rw [if_neg hc] at p1
                  exact p1.elim
        | _ => simp only [q0] at p; exact p.elim
end
end DL

set_option Elab.async false
set_option linter.all false
set_option maxRecDepth 100000
set_option maxHeartbeats 4000000
/-! DL28: len(o), o[e] by own methods. -/
namespace DL
open PySem PySem.Spec PyProof.Rows L2

/-- a method of an own class -/
structure OwM (K : PySem.W.Frag) (C : Addr) (m : Str) (f : Addr) : Prop where
  cl : Cls K C
  at_ : PySem.W.findIn K (.ref C) m = some (some (.ref f))
  fn : PySem.W.isFn K (.ref f) = true
  fi : PySem.W.fnIn K f = true
section
variable {X : Cx} {CX : CXT} {k : Nat} {f C : Addr} {sp : Sp} {E : L2.St → XK} {a b e : Expr} {ta tb : TE} {pos p : Pos}
/-- a method runs one level below -/
theorem run_in1 {pins : List (Addr × Obj)} {σ : L2.St} {H : Hp} {s : Shared} {Q : VK} {us : List Value} {vs : List V} (F : FnR X.prog X.w X.K X.mg X.base CX k f sp) (hr : Room (k + 1) X.A) (hx : PassesAt CX X σ (E σ)) (I : Inv X pins σ H s) (r : Vals vs us) (h : sp vs H Q (E σ)) :
    wpAny (model X.prog X.w) X.A.in1 (call (.ref f) us) (EP X pins σ Q) X.xe s := by
  refine wpAny_call (codeAny_mono (F X.A.in1 X.stack s H us vs Q (E σ) hr.in1 I.env0.in1 r h) fun w s2 hw => ?_)
  cases w with
  | error er => exact hx pins H s er s2 I hw
  | ok fl => cases fl <;> first | exact I.after hw | exact False.elim hw
def tOwnIx (C : Addr) (sp : Sp) (E : L2.St → XK) (ta tb : TE) : TE := fun σ H Q => ta σ H fun x H1 => tb σ H1 fun y H2 => ∃ ad dx fs, x = .ref ad ∧ H2 ad = some (.ins C dx fs) ∧ sp [x, y] H2 Q (E σ)
theorem pe_ownIx (c : OwM X.K C "__getitem__" f) (F : FnR X.prog X.w X.K X.mg X.base CX k f sp) (hr : Room (k + 1) X.A) (hx : ∀ σ, PassesAt CX X σ (E σ)) (ha : PE X a ta) (hb : PE X b tb)
    (hsl : ∀ o i, subscripted b true (.ref o) i = runValue (.builtin "lifetime.subscript" ⟨[.ref o, i], []⟩) := by intro _ _; with_unfolding_all rfl) : PE X (.Subscript a b pos) (tOwnIx C sp E ta tb) := by
  refine ⟨fun pins s σ H Q I h => Subscript_ (binT ha hb I h fun v u s2 x y H2 I2 rx ry ⟨ad, dx, fs, ex, ea, q⟩ => ?_)⟩
  obtain ⟨mA, O, _⟩ := ins_get I2.hok ea
  obtain ⟨od, J, _⟩ := O.look
  subst ex
  cases (show v = Value.ref ad from rx)
  obtain ⟨m, fr⟩ := I2.fr
  exact PySem.W.sub_K fr I2.ok.mod.kin J c.at_ c.fi c.fn (run_in1 (us := [.ref ad, u]) (vs := [.ref ad, y]) F hr (hx σ) I2 (.cons rfl (.cons ry .nil)) q) (hsl _ _)
def tOwnLen (C : Addr) (sp : Sp) (E : L2.St → XK) (ta : TE) : TE := fun σ H Q => ta σ H fun x H1 => ∃ ad dx fs, x = .ref ad ∧ H1 ad = some (.ins C dx fs) ∧ sp [x] H1 (fun v H2 => ∃ n : Nat, v = .int n ∧ n ≤ 1000000 ∧ Q (.int n) H2) (E σ)
theorem pe_ownLen (c : OwM X.K C "__len__" f) (F : FnR X.prog X.w X.K X.mg X.base CX k f sp) (hr : Room (k + 1) X.A) (hx : ∀ σ, PassesAt CX X σ (E σ)) (hg : Gl X "len") (hm : X.mg "len" = none) (ha : PE X a ta)
    (he : starEach [a] X.env = (false, eval a X.env) :: starEach [] X.env := by rfl) : PE X (.Call (.Name "len" p) [a] [] pos) (tOwnLen C sp E ta) := by
  refine ⟨fun pins s σ H Q I h => ?_⟩
  refine wpAny_Call_Name_kw (ld_blt I hg hm PySem.boot_len ?_ (by decide) (by decide))
  refine PyProof.Rows.callWith_builtin1 (thn ((pa_cons ha pa_nil he).run pos pins s σ H (fun vs H1 => match vs with
    | [x] => ∃ ad dx fs, x = .ref ad ∧ H1 ad = some (.ins C dx fs) ∧ sp [x] H1 (fun v H2 => ∃ n : Nat, v = .int n ∧ n ≤ 1000000 ∧ Q (.int n) H2) (E σ)
    | _ => False) I h) fun us s1 ⟨vs, H1, I1, r, z⟩ => ?_) he rfl
  match vs, r, z with
  | [x], r, ⟨ad, dx, fs, ex, ea, q⟩ =>
    obtain ⟨u, rfl, ru⟩ := vals1 r
    subst ex
    cases (show u = Value.ref ad from ru)
    obtain ⟨mA, O, _⟩ := ins_get I1.hok ea
    obtain ⟨od, J, _⟩ := O.look
    obtain ⟨m, fr⟩ := I1.fr
    refine PySem.W.len_K fr I1.ok.mod.kin J c.at_ c.fn (wpAny_mono (run_in1 (us := [.ref ad]) (vs := [.ref ad]) F hr (hx σ) I1 (.cons rfl .nil) q) (fun v s2 z => ?_) fun _ _ z => z)
    obtain ⟨xv, H2, I2, rx, n, en, hn, q2⟩ := z
    subst en
    obtain ⟨t, rfl⟩ := rx
    exact ⟨⟨by omega, by omega⟩, ⟨.int n, H2, I2.tok _, ⟨_, rfl⟩, q2⟩⟩
end
/-- o[e], o an own object -/
def ixOwnK (c : Str) (Ff : DF) : EV → EV → Store → RE := fun x y S => match x, y.fixed with
  | .ref l, some y' => match S[l]? with
    | some (.obj c' _) => if c' = c then Ff [.ref l, y'] S else .stuck
    | _ => .stuck
  | _, _ => .stuck
def ixOwnE (c : Str) (Ff : DF) (fa fb : DE) : DE := RE2 (ixOwnK c Ff) fa fb
/-- len(o), o an own object -/
def lenOwnK (c : Str) (Ff : DF) : EV → Store → RE := fun x S => match x with
  | .ref l => match S[l]? with
    | some (.obj c' _) => if c' = c then (match Ff [.ref l] S with
      | .ok (.d (.int n)) S2 => if 0 ≤ n ∧ n ≤ 1000000 then .ok (.d (.int n)) S2 else .stuck
      | .raise e S2 => .raise e S2
      | _ => .stuck) else .stuck
    | _ => .stuck
  | _ => .stuck
def lenOwnE (c : Str) (Ff : DF) (fa : DE) : DE := RE1 (lenOwnK c Ff) fa
section
variable {K : PySem.W.Frag} {ca : Str → Addr} {W : WX} {σ : L2.St} {H : Hp} {Q : VK} {c : Str} {Ff : DF}
theorem te_ownIx {fa fb : DE} (h : dTE K ca W (ixOwnE c Ff fa fb) σ H Q) : tOwnIx (ca c) (spD K ca 2 Ff) (WE W) (dTE K ca W fa) (dTE K ca W fb) σ H Q :=
  te1 h fun H0 F ρ S env s x S1 v F1 H1 ρ1 n r1 p => te2 n p fun y S2 v2 F2 H2 ρ2 n2 st r2 p2 => by
    unfold ixOwnK at p2
    split at p2
    · rename_i l y' q
      obtain ⟨a, e1, e2⟩ := r1
      split at p2
      · rename_i c' fs q2
        split at p2
        · rename_i hc
          subst hc
          obtain ⟨F3, n3, sm, r3⟩ := n2.fixed s.old (r2.base n.stp.mono) q
          have g2 := st.rget e2
          obtain ⟨dx, vs, h1, _⟩ := n3.sim.cell l a _ g2 q2
          exact ⟨a, dx, vs, e1, h1, rfl, F3, ρ2, S2, [.ref l, y'], sim_base n3.sim, .cons ⟨⟨a, e1, g2⟩, rfl⟩ (.cons ⟨rep_self r3 (fixed_own q), fixed_own q⟩ .nil), post_call n3 p2⟩
        · exact p2.elim
      · exact p2.elim
    · exact p2.elim
theorem te_ownLen {fa : DE} (h : dTE K ca W (lenOwnE c Ff fa) σ H Q) : tOwnLen (ca c) (spD K ca 1 Ff) (WE W) (dTE K ca W fa) σ H Q :=
  te1 (k := fun _ => lenOwnK c Ff) h fun H0 F ρ S env s x S1 v F1 H1 ρ1 n r1 p => by
    unfold lenOwnK at p
    split at p
    · rename_i l
      obtain ⟨a, e1, e2⟩ := r1
      split at p
      · rename_i c' fs q2
        split at p
        · rename_i hc
          subst hc
          obtain ⟨dx, vs, h1, _⟩ := n.sim.cell l a _ e2 q2
          refine ⟨a, dx, vs, e1, h1, rfl, F1, ρ1, S1, [.ref l], sim_base n.sim, .cons ⟨⟨a, e1, e2⟩, rfl⟩ .nil, ?_⟩
          split at p
          · rename_i i S2 q3
            rw [q3]
            split at p
            · rename_i hi
              intro u F2 H2 ρ2 st s2 rr
              obtain ⟨k, rfl⟩ := Int.eq_ofNat_of_zero_le hi.1
              cases rr
              exact ⟨k, rfl, by have := hi.2; omega, p _ F2 H2 ρ2 ⟨n.stp.trans st, n.sim.after st s2⟩ (.int _)⟩
            · exact p.elim
          · rename_i e S2 q3
            rw [q3]
            exact fun cls d F2 H2 ρ2 st s2 rr => p cls d F2 H2 ρ2 ⟨n.stp.trans st, n.sim.after st s2⟩ rr
          · exact p.elim
        · exact p.elim
      · exact p.elim
    · exact p.elim
end
section
variable {X : Cx} {ca : Str → Addr} {W : WX} {k : Nat} {f : Addr} {Ff : DF} {c : Str} {a b : Expr} {fa fb : DE} {pos p : Pos}
theorem je_ownIx (oc : OwM X.K (ca c) "__getitem__" f) (F : JR X.prog X.w X.K X.mg X.base ca k f 2 Ff) (hr : Room (k + 1) X.A) (tk : Takes X W) (ha : JE X ca W a fa) (hb : JE X ca W b fb)
    (hsl : ∀ o i, subscripted b true (.ref o) i = runValue (.builtin "lifetime.subscript" ⟨[.ref o, i], []⟩) := by intro _ _; with_unfolding_all rfl) : JE X ca W (.Subscript a b pos) (ixOwnE c Ff fa fb) :=
  imp_e (pe_ownIx oc F hr (fun σ => passAt tk σ) ha hb hsl) fun σ H Q h => te_ownIx h
theorem je_ownLen (oc : OwM X.K (ca c) "__len__" f) (F : JR X.prog X.w X.K X.mg X.base ca k f 1 Ff) (hr : Room (k + 1) X.A) (tk : Takes X W) (hg : Gl X "len") (hm : X.mg "len" = none) (ha : JE X ca W a fa)
    (he : starEach [a] X.env = (false, eval a X.env) :: starEach [] X.env := by rfl) : JE X ca W (.Call (.Name "len" p) [a] [] pos) (lenOwnE c Ff fa) :=
  imp_e (pe_ownLen oc F hr (fun σ => passAt tk σ) hg hm ha he) fun σ H Q h => te_ownLen h
end
end DL

set_option Elab.async false
set_option linter.all false
set_option maxRecDepth 100000
set_option maxHeartbeats 4000000
/-! DL29: own exceptions whose __init__ says super().__init__(..) and sets a field. -/
namespace DL
open PySem PySem.Spec PyProof.Rows L2

section
variable {prog : Program} {w : World} {A : Around} {E : Value → Shared → Prop} {h : Heap} {g : Array GenState} {d : Drawn} {t : Nat} {os : OsState}
variable {nm q : Str} {C N : Addr} {bs bm : List Value} {hdct : Bool} {sn : List Str} {sub : List Value} {ab : Bool} {col : Option Bool} {dd : Option Addr} {k0 k1 k2 k3 k5 : Option Value}
/-- the bound ValueError.__init__ at u is called: the exception's arguments are others -/
theorem call_veinit {u e t0 : Addr} {rest : List Value} {Q : Value → Shared → Prop}
    (hC : h.get? C = some (excClassObj nm q C N bs bm hdct sn sub ab col dd k0 k1 k2 k3 k5 "ValueError.__new__")) (he : h.get? e = some (HandSPX.excO C t0)) (hu : h.get? u = some (PySem.W.kxs_mw "ValueError.__init__" e)) (hl : rest.length ≤ sizeLine)
    (hq : ∀ h' t1, (∀ b o, b ≠ e → h.get? b = some o → h'.get? b = some o) → h'.get? e = some (HandSPX.excO C t1) → Q .none ⟨h', g, d, t, os⟩) : wpAny (model prog w) A (call (.ref u) rest) Q E ⟨h, g, d, t, os⟩ := by
  refine wpAny_call (codeAny_of_tree ?_)
  show wpAny _ A.in1 (callAny (.ref u) ⟨rest, []⟩) _ _ _
  simp only [callAny]
  refine wpAny_bind (wpAny_load hu ?_)
  simp only [PySem.W.kxs_mw, show (Value.type "method-wrapper" == Value.type "method" || Value.type "method-wrapper" == Value.type "builtin_function_or_method" || Value.type "method-wrapper" == Value.type "method-wrapper") = true by decide, if_true]
  refine W.KFB.if_so (by decide) ?_
  refine wpAny_bind (ESX.check_bound F.excBase_ValueError hC he rfl ?_)
  refine wpAny_bind (wpAny_pure (wpAny_pure ?_))
  refine ⟨Code.quiet_builtin _ (by decide +kernel), codeAny_builtin F.excBase_ValueError.initEntry ?_⟩
  rw [Around.under_plainId F.excBase_ValueError.init.plain _]
  wp_walk
  refine hq _ h.objs.size (fun b o hb ho => ?_) ?_
  · rw [Heap.get?_update_other _ _ (Ne.symm hb)]
    exact Heap.get?_push_of_some _ ho
  · rw [Heap.get?_update_self _ (Heap.get?_push_of_some _ he) rfl]
    rfl
end
section
open PySem.W PySem.Calls
variable {prog : Program} {w : World} {A : Around} {E : Value → Shared → Prop} {h : Heap} {g : Array GenState} {d : Drawn} {t : Nat} {os : OsState} {K : Frag} {m mg mb : Str → Option Value}
variable {nm q qual file msg lim fld : Str} {C N e L fI cc cda t0 : Addr} {bs bm : List Value} {hdct : Bool} {sn : List Str} {sub : List Value} {ab : Bool} {col : Option Bool} {dd : Option Addr} {k0 k1 k2 k3 k5 : Option Value}
variable {scope : Scope} {fd : FuncData} {ar : Arg} {vs : Array Value} {tf : Tok} {oc ccl cl : Value} {od cdd cld : Option Addr} {osl ccs csl : Array (Option Value)} {body : List Stmt} {p0 p1 p2 p3 p4 p5 p6 p7 p8 p9 p10 p11 p12 p13 : Pos} {jj : Nat} {i : Int} {ti : Tok}
/-- what is known where such an __init__ runs -/
structure SupAt (prog : Program) (K : Frag) (h : Heap) (C fI cc cda L : Addr) (scope : Scope) (fd : FuncData) (mg mb m : Str → Option Value) (lim : Str) : Prop where
  kin : K.In h
  fn : ∃ oc od osl, K.lookup fI = some ⟨oc, od, .func fd, osl⟩
  hp : ∃ ar, (fd.params.posonlyargs ++ fd.params.args).head? = some ar ∧ ar.arg = "self"
  code : ∃ ccl cdd vs ccs file tf, K.lookup cda = some ⟨ccl, cdd, .fields vs, ccs⟩ ∧ vs[2]? = some (.str file tf) ∧ ((prog.main.file : Str) == file) = true
  cell : ∃ cl cld csl, K.lookup cc = some ⟨cl, cld, .cell (some (.ref C)), csl⟩
  sup : ks_superIn K C C "__init__" = some (some (.builtin "ValueError.__init__"))
  ve : subIn K (.ref C) (.type "ValueError") = some true
  self : mroIn K C (.ref C) = some true
  third : nsIn K cStatics "thirdparty.any" = some none
  gl : h.Ns mainGlobals mg
  bl : h.Ns builtinsNs mb
  boot : ∀ x : Str, x ≠ "__name__" → mb x = bootBuiltins x
  nsup : mg "super" = none
  nstr : mg "str" = none
  top : (prog.main.scope.names.lookup ("super" : Str)).isSome = false
  ks : scope.names.lookup ("super" : Str) = some .globalImplicit
  kc : scope.names.lookup ("__class__" : Str) = some .free
  kself : scope.names.lookup ("self" : Str) = some .local
  klim : scope.names.lookup lim = some .local
  kstr : scope.names.lookup ("str" : Str) = some .globalImplicit
  kind : scope.kind = .function
/-- super() where such an __init__ runs -/
theorem sup_base {attr : Str} {whole : Sem Value} {Q : Value → Shared → Prop} (S : SupAt prog K h C fI cc cda L scope fd mg mb m lim) (hat : (attr == ("__class__" : Str)) = false) (hns : h.Ns L m) (hself : m "self" = some (.ref e)) {oe : Obj} (he : h.get? e = some oe) (hc : oe.cls = .ref C) (hn : ∀ c, oe.data ≠ .cls c)
    (hboot : bootBuiltins "super" = some (.type "super"))
    (hq : ∀ h', h'.get? h.objs.size = some (ks_superObj C e C) → (∀ y o, h.get? y = some o → h'.get? y = some o) → Q (.ref h.objs.size) ⟨h', g, d, t, os⟩) :
    _root_.PySem.wpAt (model prog w) A (.func body (ksEnv qual scope L fI (.ref cda) cc)) (attributeBase (.Call (.Name "super" p0) [] [] p1) attr (ksEnv qual scope L fI (.ref cda) cc) whole) Q E ⟨h, g, d, t, os⟩ := by
  obtain ⟨oc, od, osl, lf⟩ := S.fn
  obtain ⟨ar, hp, har⟩ := S.hp
  obtain ⟨ccl, cdd, vs, ccs, file, tf, lc, hvs, hfile⟩ := S.code
  obtain ⟨cl, cld, csl, lcell⟩ := S.cell
  have X := S.kin
  obtain ⟨cd, hcd⟩ : ∃ cd, clsIn K C = some cd := by
    have := S.sup
    unfold ks_superIn at this
    cases hz : clsIn K C with
    | none => rw [hz] at this; cases this
    | some cd => exact ⟨cd, rfl⟩
  obtain ⟨oD, hD1, hD2⟩ : ∃ oD, h.get? C = some oD ∧ oD.data = .cls cd := by
    unfold clsIn at hcd
    split at hcd
    · rename_i c d cd' sl ho
      cases hcd
      exact ⟨_, X _ _ ho, rfl⟩
    · cases hcd
  refine ks_wpAt_super_base (env := ksEnv qual scope L fI (.ref cda) cc) S.ks S.kc hat rfl (X _ _ lf) rfl hp rfl (X _ _ lc) rfl hvs hfile S.top ?_
  refine ks_loadName_global S.kind S.ks (loadGlobal_builtin (env := ksEnv qual scope L fI (.ref cda) cc) S.gl S.nsup S.bl ((S.boot _ (by decide +kernel)).trans hboot) ⟨rfl, ?_⟩)
  refine wpAny_loadName_free S.kind S.kc rfl ⟨_, X _ _ lcell, rfl⟩ ?_
  rw [har]
  refine wpAny_loadName_local S.kind S.kself hns hself ?_
  refine ks_wpAny_isType_cls hD1 hD2 ⟨rfl, ?_⟩
  exact ks_wpAny_call_super hD1 hD2 he hc hn (looks_mroIn X S.self) fun h' so k => hq h' so k
/-- the argument: a text and a number written out -/
theorem sup_arg {Q : Value → Shared → Prop} (S : SupAt prog K h C fI cc cda L scope fd mg mb m lim) {h1 : Heap} {t1 : Nat} (k : ∀ b o, h.get? b = some o → h1.get? b = some o) (hns : h1.Ns L m) (hlim : m lim = some (.int i ti)) (hz : i.natAbs.log2 < 1920) (hm : msg.length + (Str.ofString (toString i)).length ≤ sizeLine) (hd : (lim == ("__debug__" : Str)) = false) (hbs : bootBuiltins "str" = some (.type "str"))
    (hq : ∀ tk tk', Q (.str (msg ++ Str.ofString (toString i)) tk) ⟨h1, g, d, tk', os⟩) :
    wpAny (model prog w) A (eval (.BinOp (.Constant (.str msg) jj p5) .Add (.Call (.Name "str" p6) [.Name lim p7] [] p8) p9) (ksEnv qual scope L fI (.ref cda) cc)) Q E ⟨h1, g, d, t1, os⟩ := by
  refine wpAny_BinOp (Calls.Constant_str ?_)
  refine wpAny_Call_Name_kw (Calls.Name_function_global S.kind S.kstr (loadGlobal_builtin (env := ksEnv qual scope L fI (.ref cda) cc) (S.gl.keeps k) S.nstr (S.bl.keeps k) ((S.boot _ (by decide +kernel)).trans hbs) ?_) (by decide +kernel))
  refine callWith_type1 (spliced_cons (ESX.ldL (env := ksEnv qual scope L fI (.ref cda) cc) hns hlim (spliced_nil ?_) S.kind S.klim hd)) rfl rfl
  refine PySem.P.str_of_int hz ?_
  exact PyProof.Rows.add_str (fun t' tk => hq _ _) hm
abbrev supArg (msg lim : Str) (jj : Nat) (p5 p6 p7 p8 p9 : Pos) : Expr := .BinOp (.Constant (.str msg) jj p5) .Add (.Call (.Name "str" p6) [.Name lim p7] [] p8) p9
abbrev supCall (x : Expr) (p0 p1 p2 p3 : Pos) : Expr := .Call (.Attribute (.Call (.Name "super" p0) [] [] p1) "__init__" p2) [x] [] p3
/-- super().__init__(text + str(n)); self.f = n -/
theorem sup_body {Q : Flow → Shared → Prop} (S : SupAt prog K h C fI cc cda L scope fd mg mb m lim) (T : OexC K C) (hns : h.Ns L m) (hself : m "self" = some (.ref e)) (hlim : m lim = some (.int i ti)) (hz : i.natAbs.log2 < 1920) (hm : msg.length + (Str.ofString (toString i)).length ≤ sizeLine)
    (hd : (lim == ("__debug__" : Str)) = false) (hbs : bootBuiltins "str" = some (.type "str")) (hboot : bootBuiltins "super" = some (.type "super")) (he : h.get? e = some (HandSPX.excO C t0)) (hno : findIn K (.ref C) fld = some none) (hKe : K.lookup e = none) {pl : Sem Bool}
    (hi : interactive (ksEnv qual scope L fI (.ref cda) cc) = false) (hsw : swapsWith (supCall (supArg msg lim jj p5 p6 p7 p8 p9) p0 p1 p2 p3) none p4.line (ksEnv qual scope L fI (.ref cda) cc) = pure false)
    (hev : eval (supCall (supArg msg lim jj p5 p6 p7 p8 p9) p0 p1 p2 p3) (ksEnv qual scope L fI (.ref cda) cc) = (do
      let ov ← attributeBase (.Call (.Name "super" p0) [] [] p1) "__init__" (ksEnv qual scope L fI (.ref cda) cc) (eval (.Call (.Name "super" p0) [] [] p1) (ksEnv qual scope L fI (.ref cda) cc))
      standAt p2.atName
      let (f, first) ← holding [ov] (getMethod ov "__init__" pl)
      callWith p3 f first (backTo p3 (starEach [supArg msg lim jj p5 p6 p7 p8 p9] (ksEnv qual scope L fI (.ref cda) cc))) []))
    (hst : starEach [supArg msg lim jj p5 p6 p7 p8 p9] (ksEnv qual scope L fI (.ref cda) cc) = [(false, eval (supArg msg lim jj p5 p6 p7 p8 p9) (ksEnv qual scope L fI (.ref cda) cc))])
    (hsw2 : swapsWith (.Name lim p12) (some (.Attribute (.Name "self" p10) fld p11)) p13.line (ksEnv qual scope L fI (.ref cda) cc) = pure false)
    (hq : ∀ h' tk' dx t1, (∀ b o, b ≠ e → h.get? b = some o → h'.get? b = some o) → h.get? dx = none → dx ≠ e → h'.get? e = some { cls := .ref C, dict := some dx, data := .fields #[.ref t1, .none, .none, .none, .bool false, .none] } →
      h'.Ns1 dx (fun y => if y = fld then some (.int i ti) else none) → Q .next ⟨h', g, d, tk', os⟩) :
    _root_.PySem.wpAt (model prog w) A (.func body (ksEnv qual scope L fI (.ref cda) cc)) (execs [.Expr (supCall (supArg msg lim jj p5 p6 p7 p8 p9) p0 p1 p2 p3) p4,
      .Assign [.Attribute (.Name "self" p10) fld p11] (.Name lim p12) p13] (ksEnv qual scope L fI (.ref cda) cc)) Q E ⟨h, g, d, t, os⟩ := by
  obtain ⟨nm, q, N, bs, bm, sn, sub, ab, col, dd, k0, k1, k2, k3, k5, hC, hbm⟩ := T.cls
  obtain ⟨cd, hcd, hf⟩ : ∃ cd, clsIn K C = some cd ∧ alongIn K "__init__" ((cd.mro.dropWhile (· != .ref C)).drop 1) = some (some (.builtin "ValueError.__init__")) := by
    have := S.sup
    unfold ks_superIn at this
    cases hz : clsIn K C with
    | none => rw [hz] at this; cases this
    | some cd => rw [hz] at this; exact ⟨cd, rfl, this⟩
  have Le : L ≠ e := fun z => by
    obtain ⟨oL, es, ep, hL, h2, h3⟩ := hns
    rw [z, he] at hL
    cases hL
    cases h2
  have move : ∀ {h2 : Heap}, (∀ o, h.get? L = some o → h2.get? L = some o) → h2.Ns L m := fun {h2} k => by
    obtain ⟨oL, es, ep, hL, r⟩ := hns
    exact ⟨oL, es, ep, k _ hL, r⟩
  refine ks_wpAt_execs_cons (ks_wpAt_Expr_any (ks_wpAt_MethodCall (sup_base S (by decide +kernel) hns hself he rfl (fun c z => nomatch z) hboot fun h1 hso k1 => ?_) hev) hi hsw)
  have X1 : K.In h1 := S.kin.keeps k1
  have I1 : InstAt h1 e (HandSPX.excO C t0) C none := ⟨k1 _ _ he, rfl, rfl, trivial⟩
  refine kxs_getMethod kxs_ValueError hso (looks_opaque X1 S.third) (l₀ := cd.mro) (fun A Q E s k q => wpAny_bind ((looks_clsIn X1 hcd) A _ E s k (wpAny_pure q))) rfl X1 hf (I1.type.andThen (looks_subIn X1 S.ve)) (ks_ne X1 I1 hcd) (by decide +kernel) ?_
  have kk : ∀ b o, h.get? b = some o → (h1.push (kxs_mw "ValueError.__init__" e)).get? b = some o := fun b o z => Heap.get?_push_of_some _ (k1 b o z)
  have hu : (h1.push (kxs_mw "ValueError.__init__" e)).get? h1.objs.size = some (kxs_mw "ValueError.__init__" e) := Heap.get?_push_size _ rfl
  show wpAny _ _ (callWith p3 (.ref h1.objs.size) [] (backTo p3 (starEach [supArg msg lim jj p5 p6 p7 p8 p9] (ksEnv qual scope L fI (.ref cda) cc))) []) _ _ _
  rw [hst]
  refine kxs_callWith (i := "ValueError.__init__") (x := e) rfl (evalArgs_plain (spliced_cons (sup_arg S kk (move fun o z => kk _ _ z) hlim hz hm hd hbs fun tk tk' => spliced_nil ⟨hu, ?_⟩)))
  refine call_veinit (S.kin.keeps kk _ _ hC) (kk _ _ he) hu (by show 1 ≤ sizeLine; decide) fun h2 t1 k3 e2 => ?_
  have k4 : ∀ b o, b ≠ e → h.get? b = some o → h2.get? b = some o := fun b o hb z => k3 b o hb (kk b o z)
  have X2 : K.In h2 := fun b o z => by
    have hb := S.kin b o z
    by_cases hbe : b = e
    · rw [hbe, hKe] at z
      cases z
    · exact k4 b o hbe hb
  have n2 : h2.Ns L m := move fun o z => k4 _ _ Le z
  show _root_.PySem.wpAt _ _ _ (execs [.Assign [.Attribute (.Name "self" p10) fld p11] (.Name lim p12) p13] (ksEnv qual scope L fI (.ref cda) cc)) Q E _
  refine ks_wpAt_execs_cons (ks_wpAt_Assign_Attr (wpAt_of_wpAny (ESX.ldL (env := ksEnv qual scope L fI (.ref cda) cc) n2 hlim (ESX.ldL (env := ksEnv qual scope L fI (.ref cda) cc) n2 hself ?_ S.kind S.kself (by decide +kernel)) S.kind S.klim hd)) hsw2)
  have hcl : clsIn K C = some { name := nm, bases := bs, mro := .ref C :: bm, ns := N, qualname := q, hasDict := true, slotNames := sn, subclasses := sub, abstract := ab, collection := col, hasDel := false } := by unfold clsIn; rw [hC] <;> rfl
  refine set_plain X2 (ox := HandSPX.excO C t1) (od := none) ⟨e2, rfl, rfl, trivial⟩ T.sa ?_
  refine HandSPX.exc_osa X2 e2 hcl hbm rfl hno fun h' tk2 dx k5 dn dne hx hn => ?_
  have free : h.get? dx = none := by
    cases z : h.get? dx with
    | none => rfl
    | some o => exact absurd (Heap.lt_size (k4 dx o dne z)) (Nat.not_lt.mpr dn)
  have done := hq h' tk2 dx t1 (fun b o hb z => k5 b o hb (k4 b o hb z)) free dne hx hn
  show _root_.PySem.wpAt _ _ _ (execs [] (ksEnv qual scope L fI (.ref cda) cc)) Q E _
  exact wpAt_of_wpAny (wpAny_pure done)
end
end DL

set_option Elab.async false
set_option linter.all false
set_option maxRecDepth 100000
set_option maxHeartbeats 4000000
/-! DL30: the promise of an __init__ that says super().__init__(text + str(n)); self.f = n. -/
namespace DL
open PySem PySem.Spec PyProof.Rows L2 PySem.W PySem.Calls

/-- what the written part says of it -/
structure SupK (prog : Program) (K : Frag) (C fI cc cda : Addr) (scope : Scope) (fd : FuncData) (mg : Str → Option Value) (lim : Str) : Prop where
  fn : ∃ oc od osl, K.lookup fI = some ⟨oc, od, .func fd, osl⟩
  hp : ∃ ar, (fd.params.posonlyargs ++ fd.params.args).head? = some ar ∧ ar.arg = "self"
  code : ∃ ccl cdd vs ccs file tf, K.lookup cda = some ⟨ccl, cdd, .fields vs, ccs⟩ ∧ vs[2]? = some (.str file tf) ∧ ((prog.main.file : Str) == file) = true
  cell : ∃ cl cld csl, K.lookup cc = some ⟨cl, cld, .cell (some (.ref C)), csl⟩
  sup : ks_superIn K C C "__init__" = some (some (.builtin "ValueError.__init__"))
  ve : subIn K (.ref C) (.type "ValueError") = some true
  self : mroIn K C (.ref C) = some true
  third : nsIn K cStatics "thirdparty.any" = some none
  nsup : mg "super" = none
  nstr : mg "str" = none
  top : (prog.main.scope.names.lookup ("super" : Str)).isSome = false
  ks : scope.names.lookup ("super" : Str) = some .globalImplicit
  kc : scope.names.lookup ("__class__" : Str) = some .free
  kself : scope.names.lookup ("self" : Str) = some .local
  klim : scope.names.lookup lim = some .local
  kstr : scope.names.lookup ("str" : Str) = some .globalImplicit
  kind : scope.kind = .function
section
variable {P : Program} {w : World} {K : Frag} {mg : Str → Option Value} {base : Heap} {C fI cc cda : Addr} {scope : Scope} {name qual msg lim fld : Str} {params : Arguments} {kV doc pm ct : Value} {an : Option Addr} {jj : Nat} {p0 p1 p2 p3 p4 p5 p6 p7 p8 p9 p10 p11 p12 p13 : Pos}
abbrev supBody (msg lim fld : Str) (jj : Nat) (p0 p1 p2 p3 p4 p5 p6 p7 p8 p9 p10 p11 p12 p13 : Pos) : List Stmt := [.Expr (supCall (supArg msg lim jj p5 p6 p7 p8 p9) p0 p1 p2 p3) p4, .Assign [.Attribute (.Name "self" p10) fld p11] (.Name lim p12) p13]
/-- its promise -/
def supSp (C : Addr) (fld : Str) (mlen : Nat) : Sp := fun vs H Q _ => ∃ (a : Addr) (n : Int), vs = [.ref a, .int n] ∧ H a = some (exo a C none) ∧ n.natAbs.log2 < 1920 ∧ mlen + (Str.ofString (toString n)).length ≤ sizeLine ∧
  ∀ dx, H dx = none → dx ≠ a → Q .non (upd (upd H dx (exd dx [(fld, .int n)])) a (exo a C (some dx)))
theorem fn_super {fd : FuncData} (hfd : fd = ksFn name qual params (supBody msg lim fld jj p0 p1 p2 p3 p4 p5 p6 p7 p8 p9 p10 p11 p12 p13) scope .none kV doc pm an (.ref cda) ct cc) (S : SupK P K C fI cc cda scope fd mg lim) (T : OexC K C) (hcd : codeIn K (.ref cda) qual = true)
    (hno : findIn K (.ref C) fld = some none) (hd : (lim == ("__debug__" : Str)) = false) (hne : lim ≠ "self") (hbs : bootBuiltins "str" = some (.type "str")) (hboot : bootBuiltins "super" = some (.type "super")) {pl : Sem Bool}
    (hcell : ∀ x ∈ scope.names, x.2 ≠ .cell) (hco : scope.isCoroutine = false) (hgen : scope.isGenerator = false)
    (hi : ∀ L, interactive (ksEnv qual scope L fI (.ref cda) cc) = false) (hsw : ∀ L, swapsWith (supCall (supArg msg lim jj p5 p6 p7 p8 p9) p0 p1 p2 p3) none p4.line (ksEnv qual scope L fI (.ref cda) cc) = pure false)
    (hev : ∀ L, eval (supCall (supArg msg lim jj p5 p6 p7 p8 p9) p0 p1 p2 p3) (ksEnv qual scope L fI (.ref cda) cc) = (do
      let ov ← attributeBase (.Call (.Name "super" p0) [] [] p1) "__init__" (ksEnv qual scope L fI (.ref cda) cc) (eval (.Call (.Name "super" p0) [] [] p1) (ksEnv qual scope L fI (.ref cda) cc))
      standAt p2.atName
      let (f, first) ← holding [ov] (getMethod ov "__init__" pl)
      callWith p3 f first (backTo p3 (starEach [supArg msg lim jj p5 p6 p7 p8 p9] (ksEnv qual scope L fI (.ref cda) cc))) []))
    (hst : ∀ L, starEach [supArg msg lim jj p5 p6 p7 p8 p9] (ksEnv qual scope L fI (.ref cda) cc) = [(false, eval (supArg msg lim jj p5 p6 p7 p8 p9) (ksEnv qual scope L fI (.ref cda) cc))])
    (hsw2 : ∀ L, swapsWith (.Name lim p12) (some (.Attribute (.Name "self" p10) fld p11)) p13.line (ksEnv qual scope L fI (.ref cda) cc) = pure false) :
    FnOk P w K mg base (L2.CX P w) 1 fI fd ["self", lim] (supSp C fld msg.length) := by
  refine ⟨fun vs H Q E ⟨a, n, e, _⟩ => by rw [e]; rfl, fun A outer s H args us vs Q E hr e0 hbind rv ⟨a, n, ev, ea, hz, hm, hq⟩ => ?_⟩
  subst ev
  obtain ⟨u1, u2, rfl, r1, r2⟩ := vals2 rv
  cases (show u1 = Value.ref a from r1)
  obtain ⟨ti, rfl⟩ := r2
  have KX : K.In s.heap := e0.mod.kin.keeps fun b o z => (e0.bs b o z).1
  have kb : ∀ b o, base.get? b = some o → s.heap.get? b = some o := fun b o z => (e0.bs b o z).1
  obtain ⟨oc, od, osl, lf⟩ := S.fn
  obtain ⟨mb, hb1, hb2⟩ := e0.mod.blt
  obtain ⟨t0, ho⟩ := exo_at e0.hok ea
  have hKe : K.lookup a = none := by
    cases z : K.lookup a with
    | none => rfl
    | some o =>
      have := (e0.bs a o (e0.mod.kin a o z)).2
      rw [ea] at this
      cases this
  have hk := S.kind
  have hks := S.kself
  have hkl := S.klim
  subst hfd
  refine ks_codeAny_call_defAt (body := supBody msg lim fld jj p0 p1 p2 p3 p4 p5 p6 p7 p8 p9 p10 p11 p12 p13) hr.depth (KX _ _ lf) rfl (e0.mod.nolimit.keeps kb) (codeRec_of KX hcd) rfl hbind hcell (fun x hx => ?_) (fun h₀ hns k0 => ?_) hco hgen hk
  · simp only [List.zip_cons_cons, List.zip_nil_right, List.mem_cons, List.not_mem_nil, or_false] at hx
    rcases hx with rfl | rfl
    · exact hks
    · exact hkl
  · have kc : ∀ b o, base.get? b = some o → h₀.get? b = some o := fun b o z => k0 b o (kb b o z)
    have SA : SupAt P K h₀ C fI cc cda s.heap.objs.size scope (ksFn name qual params (supBody msg lim fld jj p0 p1 p2 p3 p4 p5 p6 p7 p8 p9 p10 p11 p12 p13) scope .none kV doc pm an (.ref cda) ct cc) mg mb
        (fun x => ((["self", lim] : List Str).zip [Value.ref a, .int n ti]).reverse.lookup x) lim :=
      ⟨KX.keeps k0, S.fn, S.hp, S.code, S.cell, S.sup, S.ve, S.self, S.third, e0.mod.glob.keeps kc, hb1.keeps kc, hb2, S.nsup, S.nstr, S.top, S.ks, S.kc, S.kself, S.klim, S.kstr, S.kind⟩
    refine sup_body (L := s.heap.objs.size) (i := n) (ti := ti) (e := a) SA T hns ?_ ?_ hz hm hd hbs hboot (k0 _ _ ho) hno hKe (hi _) (hsw _) (hev _) (hst _) (hsw2 _) fun h' tk' dx t1 k free dne hx hn => ?_
    · show List.lookup ("self" : Str) [(lim, Value.int n ti), ("self", .ref a)] = _
      have : (("self" : Str) == lim) = false := beq_eq_false_iff_ne.mpr fun z => hne z.symm
      simp [List.lookup, this]
    · show List.lookup lim [(lim, Value.int n ti), ("self", .ref a)] = _
      simp [List.lookup]
    · have kp : ∀ b o, b ≠ a → s.heap.get? b = some o → h'.get? b = some o := fun b o hb z => k b o hb (k0 b o z)
      have sfree : s.heap.get? dx = none := by
        cases z : s.heap.get? dx with
        | none => rfl
        | some o => rw [k0 _ _ z] at free; cases free
      have hnd : H dx = none := e0.hok.gone sfree
      have nd : ∀ {b : Addr} {o : Obj}, s.heap.get? b = some o → b ≠ dx := fun {b o} z y => by rw [y, sfree] at z; cases z
      have na : ∀ {b : Addr}, H b = none → b ≠ a := fun {b} z y => by rw [y, ea] at z; cases z
      refine ⟨.non, upd (upd H dx (exd dx [(fld, .int n)])) a (exo a C (some dx)), rfl, e0.bare, ?_, fun b o z => ?_, rfl, hq dx hnd dne⟩
      · exact {
          keep := fun b o z y _ _ => kp b o (na y) z
          slot := fun b o z y _ _ => ⟨o.slots, kp b o (na y) z⟩
          free := fun b o z y _ => by rw [upd_ne (na y), upd_ne (nd z)]; exact y
          there := fun b o z _ => by
            by_cases hb : b = a
            · exact ⟨_, by rw [hb]; exact hx⟩
            · exact ⟨o, kp b o hb z⟩
          tups := fun b xs z => by rw [upd_ne (at_ne ea z exo_tup), upd_ne (ne_of_none z hnd)]; exact z
          frzs := fun b o v z => by rw [upd_ne (at_ne ea z exo_frz), upd_ne (ne_of_none z hnd)]; exact z
          tbls := fun b ps z => ⟨#[], by rw [upd_ne (at_ne ea z exo_tbl), upd_ne (ne_of_none z hnd), z]; simp⟩ }
      · by_cases hb : b = a
        · subst hb
          rw [upd_same] at z
          cases z
          exact exo_ok hx
        · rw [upd_ne hb] at z
          by_cases hbd : b = dx
          · subst hbd
            rw [upd_same] at z
            cases z
            exact exd_ok hn (relO_put (fs := []) ⟨ti, rfl⟩ fun g => True.intro)
          · rw [upd_ne hbd] at z
            refine (e0.hok b o z).stay (fun c v hc y => kp c v ?_ y) (fun c hc => ?_) fun c xs hc => ?_
            · rcases hc with hc | hc
              · rw [hc]; exact hb
              · exact at_ne ea hc exo_own
            · rw [upd_ne (at_ne ea hc exo_own), upd_ne (ne_of_none hc hnd)]; exact hc
            · rw [upd_ne (at_ne ea hc exo_tup), upd_ne (ne_of_none hc hnd)]; exact hc
end
end DL

set_option Elab.async false
set_option linter.all false
set_option maxRecDepth 100000
set_option maxHeartbeats 4000000
/-! DL31: raise C(n), C's __init__ says super().__init__(text + str(n)); self.f = n. -/
namespace DL
open PySem PySem.Spec PyProof.Rows L2

def raiseFS (x f : Str) (mlen : Nat) (fe : DE) : DS := fun env S => (fe env S).bindS env fun v S1 => match v with
  | .d (.int n) => if n.natAbs ≤ 1000000 then .raise ⟨x, some (f, .int n)⟩ env S1 else .stuck
  | _ => .stuck
theorem js_raiseF {X : Cx} {ca : Str → Addr} {W : WX} {x f lim : Str} {mlen : Nat} {fI : Addr} {fd : FuncData} {e : Expr} {fe : DE} {p pos pos2 : Pos} (T : OexC X.K (ca x)) (iC : PySem.W.findIn X.K (.ref (ca x)) "__init__" = some (some (.ref fI))) (tI : PySem.W.typeIn X.K (.ref fI) = some (.type "function"))
    (F1 : FnOk X.prog X.w X.K X.mg X.base (L2.CX X.prog X.w) 1 fI fd ["self", lim] (supSp (ca x) f mlen)) (hb : Binds X.K fd ["self", lim] []) (hr : Room 2 X.A) (hc : X.calm = true) (tk : Takes X W) (hx : Passes (L2.CX X.prog X.w) X (fun _ _ _ => False)) (hg : Gl X x) (hm : X.mg x = some (.ref (ca x))) (h : JE X ca W e fe) (hml : mlen ≤ 1000)
    (hdb : (x == ("__debug__" : Str)) = false := by decide) (he : starEach [e] X.env = (false, eval e X.env) :: starEach [] X.env := by rfl) : JS X ca W (.Raise (some (.Call (.Name x p) [e] [] pos)) none pos2) (raiseFS x f mlen fe) := fun z =>
  imp_s (ps_raise hc tk (pmk_oex T iC tI F1 hr hb .nil hx hg hm (pa_cons h pa_nil he) hdb he rfl)) fun D σ H ⟨F, ρ, S, env, s, p⟩ =>
    ts1 (D := D) s p fun v S1 u F1 H1 ρ1 n s1 r p1 => by
      cases v with
      | d y =>
        cases y with
        | int i =>
          simp only at p1
          by_cases hi : i.natAbs ≤ 1000000
          · rw [if_pos hi] at p1
            cases r
            have hlog : i.natAbs.log2 < 1920 := by
              by_cases h0 : i.natAbs = 0
              · rw [h0]; decide
              · have : i.natAbs.log2 < 21 := (Nat.log2_lt h0).mpr (by omega)
                omega
            have hsz : (3000 : Nat) ≤ sizeLine := by decide
            have htx := PyProof.Rows.int_text_len_1921 hlog
            refine ⟨by show 1 ≤ 1000; decide, fun a ha => ⟨a, i, rfl, upd_same, hlog, by omega, fun dx hd hne => ?_⟩⟩
            have hd1 : H1 dx = none := by
              rw [upd_ne hne] at hd
              exact hd
            refine ⟨rfl, dx, [(f, .int i)], upd_same, by rw [upd_ne hne, upd_same], hd1, ?_⟩
            have eH : upd (del (upd (upd (upd H1 a (exo a (ca x) none)) dx (exd dx [(f, .int i)])) a (exo a (ca x) (some dx))) a) dx (.xd [(f, .int i)]) = upd H1 dx (.xd [(f, .int i)]) := by
              funext b
              by_cases hbd : b = dx
              · rw [hbd, upd_same, upd_same]
              · rw [upd_ne hbd, upd_ne hbd]
                by_cases hba : b = a
                · rw [hba, del_same, ha]
                · rw [del_ne hba, upd_ne hba, upd_ne hbd, upd_ne hba]
            rw [eH]
            have n2 : Now X.K ca z.H0 env σ F1 H1 ρ1 F1 (upd H1 dx (.xd [(f, .int i)])) ρ1 S1 := Now.newO ⟨Stp.refl _ _ _, s1.sim⟩ hd1
            exact p1 (.ref (ca x)) (some dx) σ F1 _ ρ1 (Same.refl _) (s1.on n2) ⟨rfl, dx, .int i, rfl, upd_same, .int i⟩
          · rw [if_neg hi] at p1
            exact p1.elim
        | _ => exact p1.elim
      | _ => exact p1.elim
end DL

set_option Elab.async false
set_option linter.all false
set_option maxRecDepth 100000
set_option maxHeartbeats 4000000
/-! DL32: str(x) of an int, a text. -/
namespace DL
open PySem PySem.Spec PyProof.Rows L2

def strG : PyData → Option EV
  | .int i => if i.natAbs ≤ 1000000000 then some (.d (.str (Str.ofString (toString i)))) else none
  | .str a => some (.d (.str a))
  | _ => none
abbrev strE : DE → DE := RE1 (vUn strG)
theorem call_str1 {X : Cx} : CallR X (.type "str") (fun xs H Q => (∃ i : Int, xs = [.int i] ∧ i.natAbs.log2 < 1920 ∧ Q (.str (Str.ofString (toString i))) H) ∨ ∃ a, xs = [.str a] ∧ Q (.str a) H) := by
  intro pins s σ H xs us Q I r h
  rcases h with h | h
  · exact call_str_int pins s σ H xs us Q I r h
  · exact SkE.call_str_str pins s σ H xs us Q I r h
theorem unv_str {K : PySem.W.Frag} {ca : Str → Addr} {W : WX} : UnV K ca W (fun v H Q => (∃ i : Int, [v] = [.int i] ∧ i.natAbs.log2 < 1920 ∧ Q (.str (Str.ofString (toString i))) H) ∨ ∃ a, [v] = [.str a] ∧ Q (.str a) H) strG := by
  intro H0 env σ F H ρ F' H' ρ' S' v1 a ev Q n r e p
  unfold strG at e
  split at e
  · rename_i i
    split at e
    · rename_i hi
      cases e
      cases r
      refine .inl ⟨i, rfl, ?_, fin_d n p (.str _)⟩
      by_cases h0 : i.natAbs = 0
      · rw [h0]; decide
      · have : i.natAbs.log2 < 31 := (Nat.log2_lt h0).mpr (by omega)
        omega
    · cases e
  · cases e
    cases r
    exact .inr ⟨_, rfl, fin_d n p (.str _)⟩
  · cases e
section
variable {X : Cx} {ca : Str → Addr} {W : WX} {a : Expr} {fa : DE} {p pos : Pos}
theorem je_strOf (hg : Gl X "str") (hm : X.mg "str" = none) (h : JE X ca W a fa) (he : starEach [a] X.env = (false, eval a X.env) :: starEach [] X.env := by rfl) : JE X ca W (.Call (.Name "str" p) [a] [] pos) (strE fa) := je_t1 call_str1 unv_str.d hg hm PyProof.Rows.boot_str h (he := he)
end
end DL

set_option Elab.async false
set_option linter.all false
set_option maxRecDepth 100000
set_option maxHeartbeats 4000000
/-! DL33: split and join of texts. -/
namespace DL
open PySem PySem.Spec PyProof.Rows L2

def splitG (a b : PyData) : Option EV := match a, b with
  | .str x, .str y => if (y.length == 0) = false ∧ x.length ≤ 100000 then some (.own ((Txt.split x y).map .str)) else none
  | _, _ => none
/-- a method of a text, one argument -/
def m1E (g : PyData → PyData → Option EV) (fo fe : DE) : DE := fun env S => (fo env S).bind fun x S1 => match x with
  | .d (.str a) => (fe env S1).bind fun y S2 => vOp g (.d (.str a)) y S2
  | _ => .stuck
abbrev splitE : DE → DE → DE := m1E splitG
def txtsD : List PyData → Option (List Str)
  | [] => some []
  | .str x :: xs => (txtsD xs).map (x :: ·)
  | _ :: _ => none
def joinG (a b : PyData) : Option EV := match a, b with
  | .str x, .list ys => match txtsD ys with
    | some zs => if (zs.map (·.length)).sum + zs.length * x.length ≤ 1000000 then some (.d (.str (Txt.join x zs))) else none
    | none => none
  | .str x, .tuple ys => match txtsD ys with
    | some zs => if (zs.map (·.length)).sum + zs.length * x.length ≤ 1000000 then some (.d (.str (Txt.join x zs))) else none
    | none => none
  | _, _ => none
abbrev joinE : DE → DE → DE := m1E joinG
section
variable {K : PySem.W.Frag} {ca : Str → Addr} {W : WX}
theorem txts_rep {F : Hp} : ∀ {vs : List V} {xs : List PyData} {zs : List Str}, DrAll K F vs xs → txtsD xs = some zs → vs = zs.map V.str
  | _, _, _, .nil, h => by cases h; rfl
  | v :: vs, x :: xs, zs, .cons r t, h => by
    cases x with
    | str x =>
      unfold txtsD at h
      cases q : txtsD xs with
      | none => rw [q] at h; cases h
      | some ys =>
        rw [q] at h
        cases h
        cases r
        rw [txts_rep t q]
        rfl
    | _ => cases h
theorem txts_dr {F : Hp} : ∀ zs : List Str, DrAll K F (zs.map V.str) (zs.map PyData.str)
  | [] => .nil
  | z :: zs => .cons (.str z) (txts_dr zs)
theorem opv_split : OpV K ca W (fun v u H Q => ∃ a b, v = .str a ∧ [u] = [.str b] ∧ (b.length == 0) = false ∧ a.length + 2 ≤ sizeLine ∧ rNewStrs (Txt.split a b) H Q) splitG := by
  intro H0 env σ F H ρ F' H' ρ' S' v1 v2 a b ev Q n r1 r2 e p
  unfold splitG at e
  split at e
  · split at e
    · rename_i hc
      cases e
      cases r1
      cases r2
      have h2 : (100002 : Nat) ≤ sizeLine := by decide
      exact ⟨_, _, rfl, rfl, hc.1, by have := hc.2; omega, fun q hq => fin_l n p (txts_dr _) hq⟩
    · cases e
  · cases e
theorem opv_join : OpV K ca W (fun v u H Q => ∃ a q, ∃ ys : List Str, v = .str a ∧ [u] = [.ref q] ∧ (SqL K H q (ys.map V.str) ∨ SqT K H q (ys.map V.str)) ∧ (ys.map (·.length)).sum + ys.length * a.length ≤ 16777216 ∧ Q (.str (Txt.join a ys)) H) joinG := by
  intro H0 env σ F H ρ F' H' ρ' S' v1 v2 a b ev Q n r1 r2 e p
  unfold joinG at e
  split at e
  · split at e
    · rename_i zs q
      split at e
      · rename_i hc
        cases e
        cases r1
        obtain ⟨c, vs, e1, h1, d1⟩ := r2
        subst e1
        have ez := txts_rep d1 q
        subst ez
        exact ⟨_, c, zs, rfl, rfl, .inl (SqL.of h1), by omega, fin_d n p (.str _)⟩
      · cases e
    · cases e
  · split at e
    · rename_i zs q
      split at e
      · rename_i hc
        cases e
        cases r1
        cases r2 with
        | tup h1 d1 =>
          have ez := txts_rep d1 q
          subst ez
          exact ⟨_, _, zs, rfl, rfl, .inr (same_t n.sim.fz h1), by omega, fin_d n p (.str _)⟩
      · cases e
    · cases e
  · cases e
end
section
variable {K : PySem.W.Frag} {ca : Str → Addr} {W : WX} {σ : L2.St} {H : Hp} {Q : VK}
theorem te_m1 {g : PyData → PyData → Option EV} {r : V → List V → Hp → VK → Prop} {fo fe : DE} (o : OpV K ca W (fun v u H Q => r v [u] H Q) g) (h : dTE K ca W (m1E g fo fe) σ H Q) : tM1 r (dTE K ca W fo) (dTE K ca W fe) σ H Q :=
  te1 h fun H0 F ρ S env s x S1 v F1 H1 ρ1 n r1 p => by
    cases x with
    | d x =>
      cases x with
      | str a =>
        refine ⟨⟨a, by cases r1; rfl⟩, te2 n p fun y S2 v2 F2 H2 ρ2 n2 st r2 p2 => ?_⟩
        exact o.d H0 env σ F H ρ F2 H2 ρ2 S2 v v2 (.d (.str a)) y Q n2 (r1.step st) (r2.base n.stp.mono) p2
      | _ => exact p.elim
    | _ => exact p.elim
end
section
variable {X : Cx} {ca : Str → Addr} {W : WX} {o e : Expr} {fo fe : DE} {apos pos : Pos}
theorem je_split (ho : JE X ca W o fo) (he : JE X ca W e fe) (hs : starEach [e] X.env = [(false, eval e X.env)] := by rfl) (hbase : attributeBase o "split" X.env (eval o X.env) = eval o X.env := by rfl) (hline : (apos.endLine == pos.line) = true := by rfl) : JE X ca W (.Call (.Attribute o "split" apos) [e] [] pos) (splitE fo fe) :=
  imp_e (pe_split ho he hs hbase hline) fun σ H Q h => te_m1 opv_split h
theorem je_join (ho : JE X ca W o fo) (he : JE X ca W e fe) (hs : starEach [e] X.env = [(false, eval e X.env)] := by rfl) (hbase : attributeBase o "join" X.env (eval o X.env) = eval o X.env := by rfl) (hline : (apos.endLine == pos.line) = true := by rfl) : JE X ca W (.Call (.Attribute o "join" apos) [e] [] pos) (joinE fo fe) :=
  imp_e (pe_join ho he hs hbase hline) fun σ H Q h => te_m1 opv_join h
end
end DL

set_option Elab.async false
set_option linter.all false
set_option maxRecDepth 100000
set_option maxHeartbeats 4000000
/-! DL34: try: .. except X as e: return e.f -/
namespace DL
open PySem PySem.Spec PyProof.Rows L2

def tryFS (known : List Str) (g : DS) (x f : Str) (i : Nat) : DS := fun env S => match g env S with
  | .raise e env' S' => if known.contains e.cls = true then (if exSub e.cls x = true then (if e.cls = x then (match e.fld with
      | some (f', d) => if f' = f ∧ i < env'.length then .ret (.d d) S' else .stuck
      | none => .stuck) else .stuck) else .raise e env' S') else .stuck
  | r => r
theorem js_tryF {X : Cx} {ca : Str → Addr} {W : WX} {body : List Stmt} {g : DS} {known : List Str} {x n f : Str} {i : Nat} {np p p2 p3 pos pos' : Pos} (hs : X.stack = X.env :: X.outer) (hf : X.env.frame = some X.env.locals) (hN : X.N.Nodup) (hi : X.N[i]? = some n) (hln : X.env.kindOf n = some .local) (tk : Takes X W)
    (hg : Gl X x) (hm : X.mg x = some (.ref (ca x))) (hdb : (x == ("__debug__" : Str)) = false) (T : XfC X.K (ca x)) (hno : PySem.W.findIn X.K (.ref (ca x)) f = some none) (hnd : (n == ("__debug__" : Str)) = false) (hncd : (n == ("__classdict__" : Str)) = false)
    (hx : ∀ y, y ∈ known → PySem.W.exmOne X.K (.ref (ca y)) (.ref (ca x)) = some (exSub y x))
    (hb : ∀ (W' : WX) (pn : List (Addr × Obj)) (xe : Value → Shared → Prop), Takes (X.tr pn xe) W' → PassesOwn (model X.prog X.w) X.A X.env xe → JSs (X.tr pn xe) ca W' body g)
    (hab : attributeBase (.Name n p) f X.env (eval (.Name n p) X.env) = eval (.Name n p) X.env := by rfl) :
    JS X ca W (.Try body [.ExceptHandler (some (.Name x np)) (some n) [.Return (some (.Attribute (.Name n p) f p2)) p3] pos'] [] [] pos) (tryFS known g x f i) := fun z =>
  imp_s (ps_try_as (c := .ref (ca x)) (tb := fun W' => dTS X.K ca W' z g) (ts := fun a cls d => tRet (tXf a cls d (ca x) f (tVar i))) hs hf hN hi hln ⟨hg, hdb, .inl hm⟩ tk (fun W' pn xe t o => hb W' pn xe t o z)
    (fun a oe cls d pn hz hd => pss_one (ps_ret (pe_xf T hno hz hd (pe_var hi (.inl hln) hnd hncd) hab)))) fun D σ H ⟨F, ρ, S, env, s, p⟩ => by
    refine ⟨F, ρ, S, env, s, ?_⟩
    unfold tryFS at p
    revert p
    cases q : g env S with
    | raise e env' S' =>
      intro p
      simp only at p
      by_cases hk : known.contains e.cls = true
      · rw [if_pos hk] at p
        intro cls d σ' F' H' ρ' fz s' er
        have ec : cls = .ref (ca e.cls) := er.1
        refine ⟨exSub e.cls x, by rw [ec]; exact hx e.cls (by simpa using hk), fun hbt a ha => ?_, fun hbf => ?_⟩
        · rw [if_pos hbt] at p
          by_cases hcx : e.cls = x
          · rw [if_pos hcx] at p
            have er2 := er.2
            cases q2 : e.fld with
            | none => simp only [q2] at p; exact p.elim
            | some fd =>
              obtain ⟨f', dv⟩ := fd
              simp only [q2] at p er2
              by_cases hff : f' = f ∧ i < env'.length
              · rw [if_pos hff] at p
                obtain ⟨hff, hlt⟩ := hff
                obtain ⟨ddx, v, e1, e2, e3⟩ := er2
                refine ⟨.ref a, ?_, rfl, by rw [ec, hcx], ddx, [(f', v)], v, e1, e2, by rw [hff]; simp [List.lookup], ?_⟩
                · have := s'.sim.lenE
                  rw [List.getElem?_set_self (by omega)]
                · exact p v F' H' ρ' s'.stp (sim_drop s'.sim) (show Dr X.K F' v dv from e3)
              · rw [if_neg hff] at p
                exact p.elim
          · rw [if_neg hcx] at p
            exact p.elim
        · rw [hbf, if_neg Bool.false_ne_true] at p
          exact p cls d σ' F' H' ρ' fz s' er
      · rw [if_neg hk] at p
        exact p.elim
    | next env' S' => exact fun p => p
    | ret v S' => exact fun p => p
    | brk env' S' => exact fun p => p
    | cont env' S' => exact fun p => p
    | stuck => exact fun p => p
end DL

set_option Elab.async false
set_option linter.all false
set_option maxRecDepth 100000
set_option maxHeartbeats 4000000
/-! DL35: xs[a:b] = ys, the list in a name's slot, b at any place from a on. -/
namespace DL
open PySem PySem.Spec PyProof.Rows L2

section
variable {prog : Program} {w : World} {A : Around} {E : Value → Shared → Prop} {s : Shared}
theorem bounds_any {a c n : Nat} (hac : a ≤ c) (ha : a ≤ n) : sliceBounds (some (a : Int)) (some (c : Int)) none n = ((a : Int), ((min c n : Nat) : Int), 1) := by
  simp only [sliceBounds, Option.getD_none]
  have h1 : ¬ ((a : Int) < 0) := by omega
  have h2 : ¬ ((c : Int) < 0) := by omega
  simp only [h1, h2, if_false, show (1 : Int) > 0 by decide, if_true]
  congr 1
  · omega
  · congr 1; omega
/-- list.__setitem__ with a slice of step one and another list -/
theorem setSlice_any {l b sl : Addr} {items new : Array Value} {n n2 : Nat} {vl vu : Value} {a c : Nat} {Q : Unit → Shared → Prop}
    (e : s.heap.get? l = some { cls := .type "list", data := .seq items n }) (e2 : s.heap.get? b = some { cls := .type "list", data := .seq new n2 }) (hne : l ≠ b)
    (hs : s.heap.IsSliceOf sl vl vu .none) (pl : IsPart vl (some (a : Int))) (pu : IsPart vu (some (c : Int))) (hac : a ≤ c) (ha : a ≤ items.size)
    (hsz : items.size + new.size ≤ sizeLine) (h : Q () { s with heap := s.heap.update l (Obj.mapSeq fun xs => xs.extract 0 a ++ new ++ xs.extract (min c items.size) xs.size) }) :
    wpAny (model prog w) A (setItem (.ref l) (.ref sl) (.ref b)) Q E s := by
  have hl : s.heap.IsList l items := PySem.IsL.isList e
  have hb : s.heap.IsList b new := PySem.IsL.isList e2
  obtain ⟨os, hos, hcs, hds⟩ := id hs
  have hTs : s.TypeIs (.ref sl) "slice" := ⟨os, hos, hcs⟩
  have hstep : ¬ ((rawPart none == rawInt 0) = true) := Bool.false_ne_true
  have hsame : Builtin.List.listSameRef (.ref l) (.ref b) = false := by
    unfold Builtin.List.listSameRef
    exact beq_eq_false_iff_ne.mpr hne
  have hmax : (max (a : Int) ((min c items.size : Nat) : Int)).toNat = min c items.size := by omega
  have hz' : ((fun xs : Array Value => xs.extract 0 a ++ new ++ xs.extract (min c items.size) xs.size) items).size ≤ sizeLine + 1 := by
    simp only [Array.size_append, Array.size_extract]
    omega
  unfold setItem
  try with_reducible refine wpAny_holding ?_
  first | refine wpAny_bind (wpAny_pure ?_) | skip
  refine wpAny_bind (wpAny_sequenceKey hl.typeIs (by decide) ?_)
  refine wpAny_bind (wpAny_callSpecial?_slot (name := Str.ofString "__setitem__") hl.typeIs slot_list_setitem
    (wpAny_call_entry slot_list_setitem hl.typeIs entry_list_setitem ?_ (args_list_setitem _ _ _)))
  show wpAny _ _ (Builtin.List.listSubscript? (.ref sl) >>= _) _ _ s
  refine wpAny_bind ?_
  unfold Builtin.List.listSubscript?
  refine wpAny_bind (wpAny_specialOf hTs slice_no_index ?_)
  simp only [Option.isNone_none, if_true]
  refine wpAny_pure ?_
  show wpAny _ _ (typeOf (.ref sl) >>= _) _ _ s
  refine wpAny_bind (wpAny_typeOf hTs ?_)
  first
    | rw [if_neg (by decide)]
    | refine PySem.W.KFB.if_not (by decide) ?_
  rw [listSliceParts_eq]
  refine wpAny_bind (wpAny_bind (wpAny_field hos hds (x := .none) rfl (wpAny_bind (wpAny_listPart .none ?_))))
  rw [if_neg hstep]
  refine wpAny_bind (wpAny_field hos hds (x := vl) rfl (wpAny_bind (wpAny_listPart pl ?_)))
  refine wpAny_bind (wpAny_field hos hds (x := vu) rfl (wpAny_bind (wpAny_listPart pu (wpAny_pure ?_))))
  first
    | simp only [hsame, Bool.false_eq_true, if_false]
    | refine PySem.W.KFB.if_not hsame ?_
    | (dsimp only
       rw [if_neg (by rw [hsame]; exact Bool.false_ne_true)])
  refine wpAny_bind (m := Builtin.List.listAllItems (.ref b) "must assign iterable to extended slice") ?_
  unfold Builtin.List.listAllItems
  refine wpAny_bind (wpAny_typeOf hb.typeIs ?_)
  first
    | refine PySem.W.KFB.if_so (by decide) ?_
    | rw [if_pos (by decide)]
    | simp only [beq_self_eq_true, Bool.true_or, if_true]
  unfold Builtin.List.listItems
  refine wpAny_bind (wpAny_seqItems e2 rfl (wpAny_pure ?_))
  refine wpAny_bind (wpAny_bind (wpAny_seqItems e rfl (wpAny_pure ?_)))
  refine wpAny_bind (wpAny_of_eq ((sliceIndices_raw (some (a : Int)) (some (c : Int)) none items.size (by simp)).trans (congrArg (pure : Int × Int × Int → Sem (Int × Int × Int)) (bounds_any hac ha))) ?_)
  show wpAny _ _ (if ((1 : Int) == 1) = true then _ else _) _ _ s
  rw [if_pos (by decide)]
  refine wpAny_bind (wpAny_rule ?_)
  first
    | simp only [notLongL hsz, Bool.false_eq_true, if_false]
    | refine PySem.W.KFB.if_not (notLongL hsz) ?_
  first | refine wpAny_bind (wpAny_pure ?_) | skip
  show wpAny _ _ (updateSeq l (fun xs => xs.extract 0 ((a : Int)).toNat ++ new ++ xs.extract (max (a : Int) ((min c items.size : Nat) : Int)).toNat xs.size) >>= _) _ _ s
  rw [hmax, Int.toNat_natCast]
  refine wpAny_bind (wpAny_updateSeq (hz := Nat.le_trans (Nat.le_add_right _ _) hsz) (_hz' := hz') e rfl ?_)
  refine wpAny_bind (wpAny_letGo ?_)
  first
    | exact wpAny_bind (wpAny_pure (wpAny_pure ⟨.none, rfl, wpAny_pure h⟩))
    | exact wpAny_pure ⟨.none, rfl, wpAny_pure h⟩
end
section
variable {X : Cx}
theorem slice_put {pins : List (Addr × Obj)} {s : Shared} {σ : L2.St} {H : Hp} {l b sl : Addr} {xs ys : List V} {a c : Int} {vl vu : Value} {Q : Unit → Shared → Prop} (I : Inv X pins σ H s)
    (hH : H l = some (.lst xs)) (hB : H b = some (.lst ys)) (hne : l ≠ b) (hs : s.heap.IsSliceOf sl vl vu .none) (ra : IsPart vl (some a)) (rc : IsPart vu (some c)) (h0 : 0 ≤ a) (hac : a ≤ c) (hc : a ≤ xs.length)
    (hz : xs.length + ys.length ≤ sizeLine) (h : ∀ s', Inv X pins σ (upd H l (.lst (xs.take a.toNat ++ ys ++ xs.drop c.toNat))) s' → Q () s') :
    wpAny (model X.prog X.w) X.A (setItem (.ref l) (.ref sl) (.ref b)) Q X.xe s := by
  obtain ⟨z, its, n, r, hl, e⟩ := I.lstM hH
  obtain ⟨z2, its2, n2, r2, hl2, e2⟩ := I.lstM hB
  obtain ⟨a', rfl⟩ := Int.eq_ofNat_of_zero_le h0
  obtain ⟨c', rfl⟩ := Int.eq_ofNat_of_zero_le (Int.le_trans h0 hac)
  simp only [Int.toNat_natCast] at h
  have hd : xs.drop c' = xs.drop (min c' xs.length) := by
    by_cases q : c' ≤ xs.length
    · rw [Nat.min_eq_left q]
    · rw [Nat.min_eq_right (by omega), List.drop_length, List.drop_of_length_le (by omega)]
  rw [hd] at h
  refine setSlice_any (a := a') (c := c') e e2 hne hs ra rc (by omega) (by rw [List.size_toArray]; omega) (by rw [List.size_toArray, List.size_toArray]; omega) (h _ ?_)
  refine I.lset (its' := its.take a' ++ its2 ++ its.drop (min c' xs.length)) (t' := s.toks) hH e ?_ (Vals.append (Vals.append (r.take _) r2) (r.drop _)) ?_
  · have el : its.toArray.size = xs.length := by rw [List.size_toArray]; omega
    have := splice_eq its its2 a' (min c' xs.length)
    rw [el]
    rw [el] at this
    exact this
  · rw [List.length_append, List.length_append, List.length_take, List.length_drop]
    omega
/-- o[a:b] = v -/
def gSlc (to : TE) (tl th : TO) : TG := fun v σ H Q => to σ H fun o H1 => tl σ H1 fun lo H2 => th σ H2 fun hi H3 => ∃ l b xs ys a c, o = .ref l ∧ v = .ref b ∧ lo = some a ∧ hi = some c ∧ H3 l = some (.lst xs) ∧ H3 b = some (.lst ys) ∧ l ≠ b ∧ 0 ≤ a ∧ a ≤ c ∧ a ≤ xs.length ∧
  xs.length + ys.length ≤ sizeLine ∧ Q σ (upd H3 l (.lst (xs.take a.toNat ++ ys ++ xs.drop c.toNat)))
theorem pg_slc {o : Expr} {lo hi : Option Expr} {to : TE} {tl th : TO} {p2 pos : Pos} (ho : PE X o to) (hl : PO X lo tl) (hh : PO X hi th)
    (ha : ∀ v, assign (.Subscript o (.Slice lo hi none p2) pos) X.env v = (do
      let ov ← holding [v] (eval o X.env)
      let iv ← holding [v, ov] (eval (.Slice lo hi none p2) X.env)
      standAt pos
      holding [v, ov, iv] (setItem ov iv v)
      release [iv, v, ov] []) := by intro _; rfl) : PG X (.Subscript o (.Slice lo hi none p2) pos) (gSlc to tl th) := by
  refine ⟨fun pins s σ H v u Q I r h => ?_⟩
  rw [ha]
  refine wpAny_bind (wpAny_holding (thn (ho.run pins s σ H _ I h) fun ov s1 ⟨x, H1, I1, r1, q1⟩ => ?_))
  refine wpAny_bind (wpAny_holding (wpAny_Slice (thn (hl.run pins s1 σ H1 _ I1 q1) fun vl s2 ⟨lo, H2, I2, pl, q2⟩ => thn (hh.run pins s2 σ H2 _ I2 q2) fun vu s3 ⟨hi, H3, I3, pu, q3⟩ => ?_)))
  rw [evalPart_none]
  refine wpAny_pure ?_
  have I4 : Inv X pins σ H3 { s3 with heap := s3.heap.push { cls := .type "slice", data := .fields #[vl, vu, .none] } } := I3.kept (t' := s3.toks) fun b ob q => Heap.get?_push_of_some _ q
  obtain ⟨l, b, xs, ys, a, c, rfl, rfl, rfl, rfl, g1, g2, hne, h0, hac, hc, hz, q⟩ := q3
  obtain rfl : ov = Value.ref l := r1
  obtain rfl : u = Value.ref b := r
  refine wpAny_bind (wpAny_standAt (wpAny_bind (wpAny_holding (slice_put I4 g1 g2 hne (Heap.IsSliceOf.new ..) pl pu h0 hac hc hz fun s5 I5 => ?_))))
  exact wpAny_release ⟨σ, _, I5, q⟩
end
/-- x[a:b] = e -/
def slcS (i : Nat) (fl fh fv : DE) : DS := fun env S => (fv env S).bindS env fun x S1 => match x, env[i]? with
  | .own ys, some (some (.own xs)) => (fl env S1).bindS env fun l S2 => match l with
    | .d (.int a) => (fh env S2).bindS env fun h S3 => match h with
      | .d (.int c) => if 0 ≤ a ∧ a ≤ c ∧ a ≤ xs.length ∧ xs.length + ys.length ≤ 1000000 then .next (env.set i (some (.own (xs.take a.toNat ++ ys ++ xs.drop c.toNat)))) S3 else .stuck
      | _ => .stuck
    | _ => .stuck
  | _, _ => .stuck
theorem js_slc {X : Cx} {ca : Str → Addr} {W : WX} {e lo hi : Expr} {fl fh fv : DE} {i : Nat} {x : Str} {p p2 p3 pos : Pos} (hN : X.N[i]? = some x) (hv : Vis X.env.scope x) (he : JE X ca W e fv) (hl : JE X ca W lo fl) (hh : JE X ca W hi fh) (hd : (x == ("__debug__" : Str)) = false := by decide) (hcd : (x == ("__classdict__" : Str)) = false := by decide)
    (ha : ∀ v, assign (.Subscript (.Name x p) (.Slice (some lo) (some hi) none p3) p2) X.env v = (do
      let ov ← holding [v] (eval (.Name x p) X.env)
      let iv ← holding [v, ov] (eval (.Slice (some lo) (some hi) none p3) X.env)
      standAt p2
      holding [v, ov, iv] (setItem ov iv v)
      release [iv, v, ov] []) := by intro _; rfl)
    (hs : swapsWithSole [.Subscript (.Name x p) (.Slice (some lo) (some hi) none p3) p2] e pos.line X.env = pure false := by rfl) (hw : swappedStores [.Subscript (.Name x p) (.Slice (some lo) (some hi) none p3) p2] e X.env = pure none := by rfl)
    (h1 : (assignEach [.Subscript (.Name x p) (.Slice (some lo) (some hi) none p3) p2] X.env).map (·.2) = [assign (.Subscript (.Name x p) (.Slice (some lo) (some hi) none p3) p2) X.env] := by rfl) :
    JS X ca W (.Assign [.Subscript (.Name x p) (.Slice (some lo) (some hi) none p3) p2] e pos) (slcS i fl fh fv) := fun z =>
  imp_s (ps_asg he (pg_slc (pe_var hN hv hd hcd) (po_some hl) (po_some hh) ha) hs hw h1) fun D σ H ⟨F, ρ, S, env, s, p⟩ =>
    ts1 (D := D) s p fun y S1 v F1 H1 ρ1 n s1 r p1 => by
      have hL := lim_eq
      have hL2 : LIM = 16777216 := rfl
      split at p1
      · rename_i ys xs q1
        obtain ⟨w1, e1, r1⟩ := s.sim.slot i _ q1
        obtain ⟨w2, e2, a, ws, t1, t2, t3, t4, t5, t6⟩ := s1.sim.slot i _ q1
        rw [e1] at e2
        cases e2
        subst t1
        refine ⟨_, e1, ts1 (D := D) s1 p1 fun l S2 vl F2 H2 ρ2 n2 s2 r2 p2 => ?_⟩
        split at p2
        · rename_i ai
          cases r2
          refine ⟨ai, rfl, ts1 (D := D) s2 p2 fun h S3 vh F3 H3 ρ3 n3 s3 r3 p3 => ?_⟩
          split at p3
          · rename_i ci
            cases r3
            split at p3
            · rename_i hc
              obtain ⟨c1, c2, c3, c4⟩ := hc
              refine ⟨ci, rfl, ?_⟩
              obtain ⟨b, us, b1, b2, b3, b4, b5, b6⟩ := (r.step n2.stp).step n3.stp
              obtain ⟨w3, e3, a', ws', u1, u2, u3, u4, u5, u6⟩ := s3.sim.slot i _ q1
              rw [e1] at e3
              cases e3
              cases u1
              have hne : a ≠ b := fun q => s.sim.old b b2 i _ q1 rfl (by rw [e1, q])
              have l1 := u6.length
              have l2 := b6.length
              refine ⟨a, b, ws', us, ai, ci, rfl, b1, rfl, rfl, u3, b3, hne, c1, c2, by omega, by omega, ?_⟩
              exact p3 σ F3 _ ρ3 (Same.refl _) (s3.mutOwn q1 e1 (((u6.take _).append b6).append (u6.drop _)))
            · exact p3.elim
          · exact p3.elim
        · exact p2.elim
      · exact p1.elim
end DL

set_option Elab.async false
set_option linter.all false
set_option maxRecDepth 100000
set_option maxHeartbeats 4000000
/-! DL36: classmethods, C(*e) of a name's slot, getters, raised exceptions with a field: bundled. -/
namespace DL
open PySem PySem.Spec PyProof.Rows L2

section
variable {X : Cx} {CX : CXT} {k : Nat} {C p g : Addr} {mc : Value} {sp : Sp} {E : L2.St → XK} {o e : Expr} {es : List Expr} {m : Str} {pos apos : Pos} {ta : TE} {t : TA} {pl : Sem Bool}
theorem run_cmS {pins : List (Addr × Obj)} {σ : L2.St} {H : Hp} {s : Shared} {q : Addr} {Q : VK} {us : List Value} {vs : List V} (F : FnR X.prog X.w X.K X.mg X.base CX k g sp) (hr : Room k X.A) (hx : PassesAt CX X σ (E σ)) (I : Inv X ((q, PySem.W.methodObj (.ref g) (.ref C)) :: pins) σ H s)
    (r : Vals vs us) (h : sp (.ref C :: vs) H Q (E σ)) : wpAny (model X.prog X.w) X.A (call (.ref q) us) (EP X pins σ Q) X.xe s := by
  have z : wpAny (model X.prog X.w) X.A (call (.ref q) us) (EP X ((q, PySem.W.methodObj (.ref g) (.ref C)) :: pins) σ Q) X.xe s :=
    wpAny_call (PySem.W.method_call (ClX.pin_at I) (codeAny_mono (F X.A X.stack s H (.ref C :: us) (.ref C :: vs) Q (E σ) hr I.env0 (.cons rfl r) h) fun r s' hq => by
      cases r with
      | error e => exact hx _ H s e s' I hq
      | ok fl =>
        cases fl with
        | ret u => exact I.after hq
        | next => exact False.elim hq
        | brk => exact False.elim hq
        | cont => exact False.elim hq))
  exact thn z fun _ _ y => ClX.unpinE y
/-- e.m(..), e the class at C, m a classmethod -/
def tCMethR (C : Addr) (sp : Sp) (E : L2.St → XK) (ta : TE) (t : TA) : TE := fun σ H Q => ta σ H fun x H1 => x = .ref C ∧ t σ H1 fun vs H2 => sp (.ref C :: vs) H2 Q (E σ)
theorem pe_cmethR (he : PE X o ta) (r : ClX.CRead X.K C mc) (c : ClX.CMet X.K C mc m p g) (F : FnR X.prog X.w X.K X.mg X.base CX k g sp) (hr : Room k X.A) (hx : ∀ σ, PassesAt CX X σ (E σ)) (ha : PA X (e :: es) t)
    (hst : starEach (e :: es) X.env = (false, eval e X.env) :: starEach es X.env := by rfl) (hpl : (backTo pos (starEach es X.env)).any (·.1) = false := by rfl)
    (ht : eval (.Call (.Attribute o m apos) (e :: es) [] pos) X.env = (do
      let ov ← eval o X.env
      standAt apos.atName
      let (f, first) ← holding [ov] (getMethod ov m pl)
      callWith pos f first (backTo pos (starEach (e :: es) X.env)) (backToKw pos (keywordEach [] X.env))) := by rfl) :
    PE X (.Call (.Attribute o m apos) (e :: es) [] pos) (tCMethR C sp E ta t) := by
  refine ⟨fun pins s σ H Q I h => ?_⟩
  refine PySem.W.methodCall_KW (pl := pl) (thn (he.run pins s σ H _ I h) fun u s1 ⟨x, H1, I1, rx, ex, q⟩ => ?_) ht
  subst ex
  obtain rfl : u = Value.ref C := rx
  refine ClX.getmethcm_ok I1 r c fun s2 I2 => ?_
  refine ClX.callwith_cm I2 (ClX.base_none I1 (Nat.le_refl _)) c.fi (thn (ha.run pos _ s2 σ H1 _ I2 q) fun us s3 ⟨vs, H2, I3, rv, q2⟩ => ⟨⟨ClX.pin_at I3, I3.kIn⟩, ?_⟩) hst hpl
  exact run_cmS F hr (hx σ) I3 rv q2
end
/-- C.m(e, ..), m a classmethod: its class comes first -/
def clsmK (c : Str) (Ff : DF) (as : DA) (env : Env) : EV → Store → RE := fun x S => match x with
  | .fn y => if y = c then (as env S).bind fun xs S2 => Ff (.fn c :: xs) S2 else .stuck
  | _ => .stuck
def clsmE (c : Str) (Ff : DF) (fo : DE) (as : DA) : DE := fun env S => (fo env S).bind (clsmK c Ff as env)
/-- x(*e), the class in the slot of x -/
def makeStNE (i : Nat) (c : Str) (Ff : DF) (fe : DE) : DE := fun env S => match env[i]? with
  | some (some (.fn y)) => if y = c then makeStE c Ff fe env S else .stuck
  | _ => .stuck
section
variable {X : Cx} {ca : Str → Addr} {W : WX} {k i : Nat} {f g p : Addr} {Ff : DF} {c m x : Str} {pos apos ppos sp_ : Pos} {e o : Expr} {es : List Expr} {fo fe : DE} {fs : List DE} {mc : Value}
theorem te_clsm {K : PySem.W.Frag} {σ : L2.St} {H : Hp} {Q : VK} {n : Nat} (hl : n = fs.length + 1) (h : dTE K ca W (clsmE c Ff fo (asL fs)) σ H Q) : tCMethR (He.ga K c) (spD K ca n Ff) (WE W) (dTE K ca W fo) (dTA K ca W (asL fs)) σ H Q :=
  te1 h fun H0 F ρ S env s x S1 v F1 H1 ρ1 n r p => by
    unfold clsmK at p
    split at p
    · split at p
      · rename_i hc
        subst hc
        have hv : v = .ref (He.ga K _) := r
        refine ⟨hv, ta2 n p fun xs S2 us F2 H2 ρ2 ex n2 st r2 p2 => ?_⟩
        exact ⟨by rw [hl, List.length_cons, Paired.length r2, asL_len _ _ _ _ _ ex], F2, ρ2, S2, .fn _ :: xs, sim_base n2.sim, .cons ⟨rfl, rfl⟩ (paired_and r2 fun b hb a q => ⟨by
          have ho := asL_own _ _ _ _ _ ex b hb
          cases b with
          | own x => cases ho
          | ownD x => cases ho
          | _ => exact q, asL_own _ _ _ _ _ ex b hb⟩), post_call n2 p2⟩
      · exact p.elim
    · exact p.elim
theorem je_clsm {n : Nat} {pl : Sem Bool} (hga : He.ga X.K c = ca c) (F : JR X.prog X.w X.K X.mg X.base ca k g n Ff) (hr : Room k X.A) (tk : Takes X W) (rd : ClX.CRead X.K (ca c) mc) (cm : ClX.CMet X.K (ca c) mc m p g) (ho : JE X ca W o fo) (ha : JA X ca W (e :: es) (asL fs)) (hl : n = fs.length + 1 := by rfl)
    (hst : starEach (e :: es) X.env = (false, eval e X.env) :: starEach es X.env := by rfl) (hpl : (backTo pos (starEach es X.env)).any (·.1) = false := by rfl)
    (ht : eval (.Call (.Attribute o m apos) (e :: es) [] pos) X.env = (do
      let ov ← eval o X.env
      standAt apos.atName
      let (f, first) ← holding [ov] (getMethod ov m pl)
      callWith pos f first (backTo pos (starEach (e :: es) X.env)) (backToKw pos (keywordEach [] X.env))) := by rfl) : JE X ca W (.Call (.Attribute o m apos) (e :: es) [] pos) (clsmE c Ff fo (asL fs)) :=
  imp_e (pe_cmethR ho rd cm F hr (fun σ => passAt tk σ) ha hst hpl ht) fun σ H Q h => by
    rw [← hga]
    exact te_clsm hl h
theorem te_makeSt {K : PySem.W.Frag} {σ : L2.St} {H : Hp} {Q : VK} (h : dTE K ca W (makeStE c Ff fe) σ H Q) : tMakeS (ca c) (fun vs H Q E => spD K ca vs.length Ff vs H Q E) (WE W) (fun σ H Q => dTE K ca W fe σ H fun y H1 => ∃ a xs, y = V.ref a ∧ (SqT K H1 a xs ∨ SqL K H1 a xs) ∧ Q xs H1) σ H Q :=
  te1 (k := fun _ x S1 => match x.view S1 with
    | some (.tuple ds) => makeK c Ff (ds.map .d) S1
    | some (.list ds) => makeK c Ff (ds.map .d) S1
    | _ => .stuck) h fun H0 F ρ S env s x S1 v F1 H1 ρ1 n r po => by
  cases q : x.view S1 with
  | none => simp only [q] at po; exact po.elim
  | some d =>
    have vw := vw_of n.sim r q
    cases d with
    | tuple ds =>
      simp only [q] at po
      cases vw with
      | tup h1 d1 => exact ⟨_, _, rfl, .inl (same_t n.sim.fz h1), fun a dx hx hd hne => make_run n (by simp) (paired_d d1) po a dx hx hd hne⟩
    | list ds =>
      simp only [q] at po
      obtain ⟨b, vs, e1, h1, d1⟩ := vw
      exact ⟨b, vs, e1, .inr (SqL.of h1), fun a dx hx hd hne => make_run n (by simp) (paired_d d1) po a dx hx hd hne⟩
    | _ => simp only [q] at po; exact po.elim
theorem je_makeStN (hga : He.ga X.K c = ca c) (M : Mk X.K (ca c) f) (F : ∀ n, JR X.prog X.w X.K X.mg X.base ca k f n Ff) (hr : Room (k + 1) X.A) (tk : Takes X W) (hN : X.N[i]? = some x) (hv : Vis X.env.scope x) (he : JE X ca W e fe) (hdb : (x == ("__debug__" : Str)) = false := by decide) (hcd : (x == ("__classdict__" : Str)) = false := by decide)
    (hst : starEach [.Starred e sp_] X.env = [(true, eval e X.env)] := by rfl) : JE X ca W (.Call (.Name x ppos) [.Starred e sp_] [] pos) (makeStNE i c Ff fe) := by
  have F' : FnR X.prog X.w X.K X.mg X.base (L2.CX X.prog X.w) k f (fun vs H Q E => spD X.K ca vs.length Ff vs H Q E) := fun A outer s H us vs Q E hr e0 r hs => F vs.length A outer s H us vs Q E hr e0 r hs
  refine ⟨fun pins s σ H Q I h => ?_⟩
  obtain ⟨H0, Fz, ρ, S, env, sm, po⟩ := h
  unfold makeStNE at po
  split at po
  · rename_i y q
    split at po
    · rename_i hc
      subst hc
      obtain ⟨v, hs, hv2⟩ := sm.slot i _ q
      have hv3 : v = .ref (ca y) := by rw [← hga]; exact hv2
      subst hv3
      refine wpAny_Call_Name_kw (thn ((pe_var (pos := ppos) hN hv hdb hcd).run pins s σ H (fun v H1 => v = .ref (ca y) ∧ H1 = H) I ⟨_, hs, rfl, rfl⟩) fun u s1 ⟨v, H1, I1, r1, q1⟩ => ?_)
      obtain ⟨rfl, rfl⟩ := q1
      cases r1
      have goal := te_makeSt (W := W) (σ := σ) (Q := Q) ⟨H0, Fz, ρ, S, env, sm, po⟩
      refine PySem.W.callWith_S (h₀ := X.base) I.ok.mod.kin M.kp (thn (he.run pins s1 σ _ _ I1 goal) fun v s2 ⟨y2, H2, I2, ry, a, xs, ey, hxs, q⟩ => ?_) hst
      subst ey
      obtain rfl : v = Value.ref a := ry
      exact StX.star_any I2 hxs fun us s3 I3 rv => ⟨I3.kIn, run_makeRS (E := WE W) M F' hr (passAt tk σ) I3 rv q⟩
    · exact po.elim
  · exact po.elim
end
/-! ### bundles -/
/-- a class of the module -/
structure ClsN (K : PySem.W.Frag) (mg : Str → Option Value) (ca : Str → Addr) (c : Str) : Prop where
  cl : Cls K (ca c)
  gl : mg c = some (.ref (ca c))
  ga : He.ga K c = ca c
theorem ClsN.fn {K : PySem.W.Frag} {mg : Str → Option Value} {ca : Str → Addr} {c : Str} (n : ClsN K mg ca c) : mg c = some (.ref (He.ga K c)) := by rw [n.ga]; exact n.gl
/-- a method's def -/
structure MthO (K : PySem.W.Frag) (ca : Str → Addr) (c m q : Str) (st : Stmt) where
  f : Addr
  fd : FuncData
  fn : FunD K m q (defArgs st) (defBody st) (defScope st) [] [] f fd
  me : Meth K (ca c) m f
/-- a classmethod's def -/
structure CmtO (K : PySem.W.Frag) (ca : Str → Addr) (c m q : Str) (st : Stmt) where
  f : Addr
  p : Addr
  fd : FuncData
  fn : FunD K m q (defArgs st) (defBody st) (defScope st) [] [] f fd
  rd : ClX.CRead K (ca c) (.type "type")
  cm : ClX.CMet K (ca c) (.type "type") m p f
/-- a property f that gives the field g -/
structure PropN (K : PySem.W.Frag) (ca : Str → Addr) (c f g : Str) : Prop where
  cl : Cls K (ca c)
  na : NoAttr K (ca c) g
  ex : ∃ pa ga fd, PropOf K (ca c) f pa ga ∧ Binds K fd ["self"] [] ∧ ∀ P w mg base, FnOk P w K mg base (fun _ _ _ _ _ _ => False) 1 ga fd ["self"] (getSp (ca c) g)
theorem fn_get {K : PySem.W.Frag} {P : Program} {w : World} {mg : Str → Option Value} {base : Heap} {x qual f : Str} {params : Arguments} {body : List Stmt} {scope : Scope} {g C : Addr} {fd : FuncData} {N : List Str} {p1 p2 p3 : Pos} (Fd : FunD K x qual params body scope [] [] g fd) (S : FnScope N ["self"] scope)
    (hN : N[0]? = some ("self" : Str)) (hb : body = [.Return (some (.Attribute (.Name "self" p1) f p2)) p3]) (c : Cls K C) (n : NoAttr K C f) : FnOk P w K mg base (fun _ _ _ _ _ _ => False) 1 g fd ["self"] (getSp C f) := by
  obtain ⟨oc, od, dV, kV, doc, pm, an, cdv, ct, osl, rfl, lk, hcd, hD, hK⟩ := Fd.ex
  exact fn_getter (k := 0) lk hcd S hN hb c n
theorem je_propN {X : Cx} {ca : Str → Addr} {W : WX} {c f g : Str} {e : Expr} {fo : DE} {pos : Pos} (N : PropN X.K ca c f g) (hr : Room 2 X.A) (h : JE X ca W e fo) (hab : attributeBase e f X.env (eval e X.env) = eval e X.env := by rfl) : JE X ca W (.Attribute e f pos) (fldE c g fo) := by
  obtain ⟨pa, ga, fd, hp, hb, F⟩ := N.ex
  exact je_prop (k := 1) N.cl N.na hp (F _ _ _ _) hb hr h hab
/-- an own exception with a field, its __init__ says super().__init__(..) -/
structure ExcF (P : Program) (K : PySem.W.Frag) (mg : Str → Option Value) (ca : Str → Addr) (x f lim : Str) (mlen : Nat) : Prop where
  gl : mg x = some (.ref (ca x))
  oex : OexC K (ca x)
  xf : XfC K (ca x)
  nof : PySem.W.findIn K (.ref (ca x)) f = some none
  ini : ∃ fI fd, PySem.W.findIn K (.ref (ca x)) "__init__" = some (some (.ref fI)) ∧ PySem.W.typeIn K (.ref fI) = some (.type "function") ∧ Binds K fd ["self", lim] [] ∧ ∀ w base, FnOk P w K mg base (L2.CX P w) 1 fI fd ["self", lim] (supSp (ca x) f mlen)
theorem js_raiseX {X : Cx} {ca : Str → Addr} {W : WX} {x f lim : Str} {mlen : Nat} {e : Expr} {fe : DE} {p pos pos2 : Pos} (N : ExcF X.prog X.K X.mg ca x f lim mlen) (hr : Room 2 X.A) (hc : X.calm = true) (tk : Takes X W) (hg : Gl X x) (h : JE X ca W e fe) (hml : mlen ≤ 1000 := by decide)
    (hdb : (x == ("__debug__" : Str)) = false := by decide) (he : starEach [e] X.env = (false, eval e X.env) :: starEach [] X.env := by rfl) : JS X ca W (.Raise (some (.Call (.Name x p) [e] [] pos)) none pos2) (raiseFS x f mlen fe) := by
  obtain ⟨fI, fd, h1, h2, h3, h4⟩ := N.ini
  exact js_raiseF N.oex h1 h2 (h4 _ _) h3 hr hc tk passL hg N.gl h hml hdb he
/-- a statement that is never reached -/
def deadS : DS := fun _ _ => .stuck
end DL

set_option Elab.async false
set_option linter.all false
set_option maxRecDepth 100000
set_option maxHeartbeats 4000000
/-! DL37: the head's facts of classes. -/
namespace DL
open PySem PySem.Spec PyProof.Rows L2

/-- a def where it stands; clo: its closure's names -/
structure DefQ where
  at_ : PySem.W.Frag → Addr
  name : Str
  qual : Str
  params : Arguments
  body : List Stmt
  scope : Scope
  clo : List Str := []
def fnQ (K : PySem.W.Frag) (a : Addr) : He.FnW := match K.lookup a with
  | some ⟨_, _, .func fd, _⟩ => some (fd.name, fd.qualname, fd.params, fd.body, fd.scope, fd.globals, fd.closure.map (fun p => (p.1, (0 : Addr))), fd.builtins)
  | _ => none
def DefQ.val (d : DefQ) : He.FnW := some (d.name, d.qual, d.params, .stmts d.body, d.scope, mainGlobals, d.clo.map (fun x => (x, (0 : Addr))), builtinsNs)
def DefQ.ok (K : PySem.W.Frag) (d : DefQ) : Bool := PySem.W.keepIn K (.ref (d.at_ K)) && (match K.lookup (d.at_ K) with
  | some ⟨_, _, .func fd, _⟩ => PySem.W.codeIn K fd.code d.qual && (He.dflB K fd.defaults [] && He.kwdB K fd.kwdefaults [])
  | _ => false)
theorem DefQ.any {K : PySem.W.Frag} {d : DefQ} (e : fnQ K (d.at_ K) = d.val) (c : d.ok K = true) : ∃ oc od cl kV doc pm an cdv ct osl, K.lookup (d.at_ K) = some ⟨oc, od, .func (PySem.W.fnX d.name d.qual d.params d.body d.scope cl .none kV doc pm an cdv ct), osl⟩ ∧
    cl.map (fun p => (p.1, (0 : Addr))) = d.clo.map (fun x => (x, (0 : Addr))) ∧ PySem.W.codeIn K cdv d.qual = true ∧ PySem.W.keepIn K (.ref (d.at_ K)) = true := by
  obtain ⟨kp, c2⟩ := He.ba c
  unfold fnQ at e
  cases q : K.lookup (d.at_ K) with
  | none =>
    rw [q] at c2
    cases c2
  | some o =>
    obtain ⟨oc, od, dt, osl⟩ := o
    rw [q] at c2 e
    cases dt with
    | func fd =>
      obtain ⟨n1, n2, n3, n4, n5, n6, n7, n8, n9, n10, n11, n12, n13, n14, n15⟩ := fd
      have e2 : (some (n1, n2, n3, n4, n5, n6, n7.map (fun p => (p.1, (0 : Addr))), n15) : He.FnW) = some (d.name, d.qual, d.params, .stmts d.body, d.scope, mainGlobals, d.clo.map (fun x => (x, (0 : Addr))), builtinsNs) := e
      simp only [Option.some.injEq, Prod.mk.injEq] at e2
      obtain ⟨h1, h2, h3, h4, h5, h6, h7, h8⟩ := e2
      subst h1 h2 h3 h4 h5 h6 h8
      have c3 : (PySem.W.codeIn K n13 d.qual && (He.dflB K n8 [] && He.kwdB K n9 [])) = true := c2
      obtain ⟨k1, k2⟩ := He.ba c3
      obtain ⟨k3, k4⟩ := He.ba k2
      have hn : n8 = .none := by
        rcases He.dflB_ok k3 with ⟨_, z⟩ | ⟨z, _⟩
        · exact z
        · exact absurd rfl z
      subst hn
      exact ⟨oc, od, n7, n9, n10, n11, n12, n13, n14, osl, rfl, h7, k1, kp⟩
    | _ => cases c2
theorem DefQ.funD {K : PySem.W.Frag} {d : DefQ} (e : fnQ K (d.at_ K) = d.val) (c : d.ok K = true) (h0 : d.clo = []) : ∃ fd, FunD K d.name d.qual d.params d.body d.scope [] [] (d.at_ K) fd := by
  obtain ⟨oc, od, cl, kV, doc, pm, an, cdv, ct, osl, h1, h2, h3, h4⟩ := DefQ.any e c
  rw [h0] at h2
  have hc : cl = [] := by
    cases cl with
    | nil => rfl
    | cons a b => cases h2
  subst hc
  exact ⟨_, ⟨oc, od, .none, kV, doc, pm, an, cdv, ct, osl, rfl, h1, h3, .inl ⟨rfl, rfl⟩, .inl rfl⟩, h4⟩
theorem DefQ.sup {K : PySem.W.Frag} {d : DefQ} (e : fnQ K (d.at_ K) = d.val) (c : d.ok K = true) (h0 : d.clo = [("__class__" : Str)]) : ∃ oc od osl kV doc pm an cdv ct cc, K.lookup (d.at_ K) = some ⟨oc, od, .func (PySem.W.ksFn d.name d.qual d.params d.body d.scope .none kV doc pm an cdv ct cc), osl⟩ ∧ PySem.W.codeIn K cdv d.qual = true := by
  obtain ⟨oc, od, cl, kV, doc, pm, an, cdv, ct, osl, h1, h2, h3, h4⟩ := DefQ.any e c
  rw [h0] at h2
  match cl, h2 with
  | [(y, cc)], h2 =>
    have hy : y = "__class__" := by
      simp only [List.map_cons, List.map_nil, List.cons.injEq, Prod.mk.injEq, and_true] at h2
      exact h2
    subst hy
    exact ⟨oc, od, osl, kV, doc, pm, an, cdv, ct, cc, h1, h3⟩
/-! ### the hook -/
def obsQ (pr : PySem.W.Frag → Bool) (fn : List DefQ) (K : PySem.W.Frag) : He.AlD := (pr K && fn.all fun d => d.ok K, fn.map fun d => fnQ K (d.at_ K))
def SaysQ (pr : PySem.W.Frag → Bool) (fn : List DefQ) (K : PySem.W.Frag) : Prop := obsQ pr fn K = (true, fn.map DefQ.val)
def obsQG (n : Nat) (pr : PySem.W.Frag → Bool) (fn : List DefQ) (g : Addr → Option Obj) : He.AlD := obsQ pr fn (He.frG g (He5.asA g n))
def hookQ (n : Nat) (pr : PySem.W.Frag → Bool) (fn : List DefQ) : PySem.W.Hook where
  α := He.AlD
  obs := fun s => obsQG n pr fn s.heap.get?
  val := fun _ => (true, fn.map DefQ.val)
  says := fun _ h => ∃ K : PySem.W.Frag, K.In h ∧ SaysQ pr fn K
  of := fun _ _ e => ⟨_, He.frG_in, e⟩
  keeps := fun _ _ _ ⟨K, hK, c⟩ k => ⟨K, PySem.W.Frag.In.keeps hK k, c⟩
theorem obsQG_eq {n : Nat} {pr : PySem.W.Frag → Bool} {fn : List DefQ} {g : Addr → Option Obj} {s : Shared} (h : ∀ a, g a = s.heap.get? a) : obsQG n pr fn g = (hookQ n pr fn).obs s := by
  have e : g = s.heap.get? := funext h
  rw [e] <;> rfl
section
variable {pr : PySem.W.Frag → Bool} {fn : List DefQ} {K : PySem.W.Frag}
theorem SaysQ.chk (c : SaysQ pr fn K) : pr K = true := (Bool.and_eq_true_iff.mp (show (pr K && fn.all fun d => d.ok K) = true from congrArg (fun z : He.AlD => z.1) c)).1
theorem SaysQ.at_ (c : SaysQ pr fn K) (i : Nat) {d : DefQ} (h : fn[i]? = some d) : fnQ K (d.at_ K) = d.val ∧ d.ok K = true := by
  have c2 := (Bool.and_eq_true_iff.mp (show (pr K && fn.all fun d => d.ok K) = true from congrArg (fun z : He.AlD => z.1) c)).2
  have e : fn.map (fun d => fnQ K (d.at_ K)) = fn.map DefQ.val := congrArg (fun z : He.AlD => z.2) c
  have e2 : (fn.map fun d => fnQ K (d.at_ K))[i]? = (fn.map DefQ.val)[i]? := by rw [e]
  rw [List.getElem?_map, List.getElem?_map, h] at e2
  exact ⟨Option.some.inj e2, List.all_eq_true.mp c2 d (List.mem_of_getElem? h)⟩
theorem SaysQ.def_ (c : SaysQ pr fn K) (i : Nat) {d : DefQ} (h : fn[i]? = some d := by rfl) (h0 : d.clo = [] := by rfl) : ∃ fd, FunD K d.name d.qual d.params d.body d.scope [] [] (d.at_ K) fd := by
  obtain ⟨a, b⟩ := c.at_ i h
  exact DefQ.funD a b h0
end
/-! ### checks -/
def clsBody : Stmt → List Stmt
  | .ClassDef _ _ _ b _ _ _ _ _ _ _ => b
  | _ => []
def eqO (a b : Option (Option Value)) : Bool := decide (a = b)
theorem eqO_ok {a b : Option (Option Value)} (h : eqO a b = true) : a = b := of_decide_eq_true h
def oexB (K : PySem.W.Frag) (C : Addr) : Bool := (match K.lookup C with
  | some ⟨.type "type", _, .cls cd, sl⟩ => (match cd.mro, sl.toList with
    | .ref C' :: bm, [_, _, _, _, some (.builtin n), _] => decide (C' = C) && (decide (n = "ValueError.__new__") && (!cd.hasDel && (cd.hasDict && PySem.HandSPX.refsVE bm)))
    | _, _ => false)
  | _ => false) && (eqO (PySem.W.findIn K (.ref C) "__setattr__") (some (some (.builtin "object.__setattr__"))) && (decide (PySem.W.subIn K (.ref C) (.type "BaseException") = some true) && (decide (PySem.W.typeIn K (.ref C) = some (.type "type")) && PySem.W.keepIn K (.ref C))))
theorem oexB_ok {K : PySem.W.Frag} {C : Addr} (h : oexB K C = true) : OexC K C := by
  obtain ⟨h1, h⟩ := He.ba h
  obtain ⟨h2, h⟩ := He.ba h
  obtain ⟨h3, h⟩ := He.ba h
  obtain ⟨h4, h5⟩ := He.ba h
  refine ⟨?_, eqO_ok h2, of_decide_eq_true h3, of_decide_eq_true h4, h5⟩
  clear h2 h3 h4 h5 h
  split at h1
  · rename_i dd cd sl ho
    split at h1
    · rename_i C' bm k0 k1 k2 k3 n k5 hm hs
      obtain ⟨q1, h1⟩ := He.ba h1
      obtain ⟨q2, h1⟩ := He.ba h1
      obtain ⟨q3, h1⟩ := He.ba h1
      obtain ⟨q4, q5⟩ := He.ba h1
      obtain ⟨nm, bs, mro, ns, qn, hd, sn, sub, ab, col, del⟩ := cd
      dsimp only at hm q3 q4
      have e1 := of_decide_eq_true q1
      have e2 := of_decide_eq_true q2
      have e3 : del = false := by simpa using q3
      subst hm e1 e2 e3 q4
      have hsl : sl = #[k0, k1, k2, k3, some (.builtin "ValueError.__new__"), k5] := by
        obtain ⟨l⟩ := sl
        simp only at hs
        rw [hs]
      subst hsl
      exact ⟨nm, qn, ns, bs, bm, sn, sub, ab, col, dd, k0, k1, k2, k3, k5, ho, q5⟩
    · cases h1
  · cases h1
def cellB (K : PySem.W.Frag) (C : Addr) : List (Str × Addr) → Bool
  | [(_, cc)] => (match K.lookup cc with
    | some ⟨_, _, .cell (some (.ref D)), _⟩ => decide (D = C)
    | _ => false)
  | _ => false
def fileB (K : PySem.W.Frag) (file : Str) : Value → Bool
  | .ref cda => (match K.lookup cda with
    | some ⟨_, _, .fields vs, _⟩ => (match (vs[2]? : Option Value) with
      | some (.str f _) => decide (f = file)
      | _ => false)
    | _ => false)
  | _ => false
theorem cellB_ok {K : PySem.W.Frag} {C cc : Addr} {y : Str} (h : cellB K C [(y, cc)] = true) : ∃ cl cld csl, K.lookup cc = some ⟨cl, cld, .cell (some (.ref C)), csl⟩ := by
  have h' : (match K.lookup cc with
    | some ⟨_, _, .cell (some (.ref D)), _⟩ => decide (D = C)
    | _ => false) = true := h
  split at h'
  · rename_i q
    have := of_decide_eq_true h'
    subst this
    exact ⟨_, _, _, q⟩
  · cases h'
theorem fileB_ok {K : PySem.W.Frag} {file : Str} {cdv : Value} (h : fileB K file cdv = true) : ∃ cda, cdv = .ref cda ∧ ∃ ccl cdd vs ccs f tf, K.lookup cda = some ⟨ccl, cdd, .fields vs, ccs⟩ ∧ vs[2]? = some (.str f tf) ∧ ((file : Str) == f) = true := by
  unfold fileB at h
  split at h
  · rename_i cda
    split at h
    · rename_i q
      split at h
      · rename_i q2
        exact ⟨cda, rfl, _, _, _, _, _, _, q, q2, by rw [of_decide_eq_true h]; exact beq_self_eq_true _⟩
      · cases h
    · cases h
  · cases h
/-- the __init__ at a, of the class C, of the file's text -/
def supB (K : PySem.W.Frag) (C a : Addr) (file : Str) : Bool := match K.lookup a with
  | some ⟨_, _, .func fd, _⟩ => cellB K C fd.closure && fileB K file fd.code
  | _ => false
/-- all of an exception with a field -/
def exfB (K : PySem.W.Frag) (x f : Str) (file : Str) : Bool := oexB K (He.ga K x) && (xfB K (He.ga K x) && (eqO (PySem.W.findIn K (.ref (He.ga K x)) f) (some none) && (eqO (PySem.W.findIn K (.ref (He.ga K x)) "__init__") (some (some (.ref (He.ma K (He.ga K x) "__init__")))) &&
  (decide (PySem.W.typeIn K (.ref (He.ma K (He.ga K x) "__init__")) = some (.type "function")) && (supB K (He.ga K x) (He.ma K (He.ga K x) "__init__") file && (eqO (PySem.W.ks_superIn K (He.ga K x) (He.ga K x) "__init__") (some (some (.builtin "ValueError.__init__"))) &&
  (decide (PySem.W.subIn K (.ref (He.ga K x)) (.type "ValueError") = some true) && (decide (PySem.W.mroIn K (He.ga K x) (.ref (He.ga K x)) = some true) && eqO (PySem.W.nsIn K cStatics "thirdparty.any") (some none)))))))))
theorem boot_sup : bootBuiltins "super" = some (.type "super") := by kernel_rfl
theorem excF_of {P : Program} {K : PySem.W.Frag} {h : Heap} {mg : Str → Option Value} {x f lim msg : Str} {d : DefQ} {jj : Nat} {p0 p1 p2 p3 p4 p5 p6 p7 p8 p9 p10 p11 p12 p13 : Pos} (X : K.In h) (gl : mg x = some (.ref (He.ga K x))) (c : exfB K x f P.main.file = true)
    (hat : d.at_ K = He.ma K (He.ga K x) "__init__") (e : fnQ K (d.at_ K) = d.val) (ok : d.ok K = true) (h0 : d.clo = [("__class__" : Str)]) (hbody : d.body = supBody msg lim f jj p0 p1 p2 p3 p4 p5 p6 p7 p8 p9 p10 p11 p12 p13) (nsup : mg "super" = none) (nstr : mg "str" = none)
    (top : (P.main.scope.names.lookup ("super" : Str)).isSome = false) (hp : ∃ ar, (d.params.posonlyargs ++ d.params.args).head? = some ar ∧ ar.arg = "self")
    (ks : d.scope.names.lookup ("super" : Str) = some .globalImplicit) (kc : d.scope.names.lookup ("__class__" : Str) = some .free) (kself : d.scope.names.lookup ("self" : Str) = some .local) (klim : d.scope.names.lookup lim = some .local) (kstr : d.scope.names.lookup ("str" : Str) = some .globalImplicit) (kind : d.scope.kind = .function)
    (hd : (lim == ("__debug__" : Str)) = false) (hne : lim ≠ "self") {pl : Sem Bool} (hcell : ∀ x ∈ d.scope.names, x.2 ≠ .cell) (hco : d.scope.isCoroutine = false) (hgen : d.scope.isGenerator = false)
    (hi : ∀ L fI cda cc, interactive (PySem.W.ksEnv d.qual d.scope L fI (.ref cda) cc) = false) (hsw : ∀ L fI cda cc, swapsWith (supCall (supArg msg lim jj p5 p6 p7 p8 p9) p0 p1 p2 p3) none p4.line (PySem.W.ksEnv d.qual d.scope L fI (.ref cda) cc) = pure false)
    (hev : ∀ L fI cda cc, eval (supCall (supArg msg lim jj p5 p6 p7 p8 p9) p0 p1 p2 p3) (PySem.W.ksEnv d.qual d.scope L fI (.ref cda) cc) = (do
      let ov ← attributeBase (.Call (.Name "super" p0) [] [] p1) "__init__" (PySem.W.ksEnv d.qual d.scope L fI (.ref cda) cc) (eval (.Call (.Name "super" p0) [] [] p1) (PySem.W.ksEnv d.qual d.scope L fI (.ref cda) cc))
      standAt p2.atName
      let (f, first) ← holding [ov] (getMethod ov "__init__" pl)
      callWith p3 f first (backTo p3 (starEach [supArg msg lim jj p5 p6 p7 p8 p9] (PySem.W.ksEnv d.qual d.scope L fI (.ref cda) cc))) []))
    (hst : ∀ L fI cda cc, starEach [supArg msg lim jj p5 p6 p7 p8 p9] (PySem.W.ksEnv d.qual d.scope L fI (.ref cda) cc) = [(false, eval (supArg msg lim jj p5 p6 p7 p8 p9) (PySem.W.ksEnv d.qual d.scope L fI (.ref cda) cc))])
    (hsw2 : ∀ L fI cda cc, swapsWith (.Name lim p12) (some (.Attribute (.Name "self" p10) f p11)) p13.line (PySem.W.ksEnv d.qual d.scope L fI (.ref cda) cc) = pure false)
    (hbind : ∀ (kV doc pm : Value) (an : Option Addr) (cdv ct : Value) (cc : Addr) (us : List Value), us.length = 2 → bindArgs (PySem.W.ksFn d.name d.qual d.params d.body d.scope .none kV doc pm an cdv ct cc) ⟨us, []⟩ = pure ((["self", lim] : List Str).zip us)) :
    ExcF P K mg (He.ga K) x f lim msg.length := by
  obtain ⟨c1, c⟩ := He.ba c
  obtain ⟨c2, c⟩ := He.ba c
  obtain ⟨c3, c⟩ := He.ba c
  obtain ⟨c4, c⟩ := He.ba c
  obtain ⟨c5, c⟩ := He.ba c
  obtain ⟨c6, c⟩ := He.ba c
  obtain ⟨c7, c⟩ := He.ba c
  obtain ⟨c8, c⟩ := He.ba c
  obtain ⟨c9, c10⟩ := He.ba c
  obtain ⟨oc, od, osl, kV, doc, pm, an, cdv, ct, cc, lk, hcode⟩ := DefQ.sup e ok h0
  rw [hat] at lk
  unfold supB at c6
  rw [lk] at c6
  obtain ⟨s1, s2⟩ := He.ba c6
  have hcell2 := cellB_ok s1
  obtain ⟨cda, hcda, ccl, cdd, vs, ccs, file, tf, lc, hvs, hfile⟩ := fileB_ok s2
  have hcda : cdv = .ref cda := hcda
  subst hcda
  have S : SupK P K (He.ga K x) (He.ma K (He.ga K x) "__init__") cc cda d.scope (PySem.W.ksFn d.name d.qual d.params d.body d.scope .none kV doc pm an (.ref cda) ct cc) mg lim :=
    ⟨⟨oc, od, osl, lk⟩, hp, ⟨ccl, cdd, vs, ccs, file, tf, lc, hvs, hfile⟩, hcell2, eqO_ok c7, of_decide_eq_true c8, of_decide_eq_true c9, eqO_ok c10, nsup, nstr, top, ks, kc, kself, klim, kstr, kind⟩
  refine ⟨gl, oexB_ok c1, xfB_ok c2, eqO_ok c3, _, _, eqO_ok c4, of_decide_eq_true c5, .all (fun us hl => hbind kV doc pm an (.ref cda) ct cc us hl), fun w base => ?_⟩
  exact fn_super (pl := pl) (by rw [hbody]) S (oexB_ok c1) hcode (eqO_ok c3) hd hne PyProof.Rows.boot_str boot_sup hcell hco hgen (fun L => hi L _ _ _) (fun L => hsw L _ _ _) (fun L => hev L _ _ _) (fun L => hst L _ _ _) (fun L => hsw2 L _ _ _)
/-- a property's getter -/
def propB (K : PySem.W.Frag) (C : Addr) (f : Str) : Bool := eqO (PySem.W.findIn K (.ref C) f) (some (some (.ref (He.ma K C f)))) && (eqO (PySem.W.specialIn K (.ref (He.ma K C f)) "__get__") (some (some (.builtin "property.__get__"))) && (decide (PySem.W.takesIn K (.ref (He.ma K C f)) = some true) &&
  (match PySem.W.recIn K (He.ma K C f) "property" with
  | some (.ref _ :: _) => true
  | _ => false)))
theorem propB_ok {K : PySem.W.Frag} {C : Addr} {f : Str} (h : propB K C f = true) : PropOf K C f (He.ma K C f) (He5.wf K C "property" f) := by
  obtain ⟨h1, h⟩ := He.ba h
  obtain ⟨h2, h⟩ := He.ba h
  obtain ⟨h3, h4⟩ := He.ba h
  refine ⟨eqO_ok h1, eqO_ok h2, of_decide_eq_true h3, ?_⟩
  unfold He5.wf
  split at h4
  · rename_i f' r e
    exact ⟨r, by rw [e]⟩
  · cases h4
/-- a classmethod's record -/
def cmB (K : PySem.W.Frag) (C : Addr) (m : Str) : Bool := He5.wrapB K C "classmethod" "classmethod.__get__" m && (PySem.W.fnIn K (He5.wf K C "classmethod" m) && (PySem.W.readsIn K C (.type "type") && eqO (PySem.W.specialIn K (.ref C) "__getattribute__") (some (some (.builtin "type.__getattribute__")))))
theorem cmB_ok {K : PySem.W.Frag} {C : Addr} {m : Str} (h : cmB K C m = true) : ClX.CRead K C (.type "type") ∧ ClX.CMet K C (.type "type") m (He.ma K C m) (He5.wf K C "classmethod" m) := by
  obtain ⟨h1, h⟩ := He.ba h
  obtain ⟨h2, h⟩ := He.ba h
  obtain ⟨h3, h4⟩ := He.ba h
  exact ⟨⟨h3, eqO_ok h4⟩, He5.cmet_of h1 h2⟩
end DL

set_option Elab.async false
set_option linter.all false
set_option maxRecDepth 100000
set_option maxHeartbeats 4000000
/-! DL38: written lists with objects in them, a for over a written list, isinstance of objects. -/
namespace DL
open PySem PySem.Spec PyProof.Rows L2

section
variable {K : PySem.W.Frag} {ca : Str → Addr} {W : WX} {H0 F H F' H' : Hp} {ρ ρ' : List Addr} {S' : Store} {env : Env} {σ : L2.St}
/-- a new object that is fixed from now on -/
theorem Now.newF (n : Now K ca H0 env σ F H ρ F' H' ρ' S') {p : Addr} {o : HO} (hp : H' p = none) : Now K ca H0 env σ F H ρ (upd F' p o) (upd H' p o) ρ' S' := by
  have s1 := n.sim.alloc (o := o) hp
  have t1 := n.stp.trans (Stp.alloc (o := o) hp)
  have hF := n.sim.unfz hp
  exact ⟨t1.fix (n.stp.mono p hp) hF, s1.fix upd_same hF (n.sim.notin hp) fun i ev e1 e2 e3 => (n.sim.own_at e1 e2 e3).2.2.2 hp⟩
end
/-- [e1, .., en], of which nothing is known later -/
def lstOE (fs : List DE) : DE := fun env S => (asL fs env S).bind fun _ S1 => .ok (.tag .lo) S1
section
variable {X : Cx} {ca : Str → Addr} {W : WX} {es : List Expr} {fs : List DE}
theorem te_lstO (hz : fs.length ≤ 1000) : ∀ σ H Q, dTE X.K ca W (lstOE fs) σ H Q → tLst (dTA X.K ca W (asL fs)) σ H Q := fun σ H Q h =>
  ta_end h fun H0 F ρ S env s xs S1 vs F1 H1 ρ1 e n r p => by
    have hl := asL_len _ _ _ _ _ e
    have hv := Paired.length r
    exact ⟨by rw [sizeLine_eq]; omega, fun pt hp => p _ _ _ _ (n.newF hp) ⟨pt, vs, rfl, upd_same⟩⟩
theorem je_lstO {pos} (h : JA X ca W es (asL fs)) (hz : fs.length ≤ 1000 := by decide) : JE X ca W (.List es pos) (lstOE fs) := imp_e (pe_lst h) (te_lstO hz)
end
/-! ### isinstance(x, T), x a datum or an object of class c -/
structure IsB (K : PySem.W.Frag) (C : Addr) : Prop where
  bt : ∀ T, T ∈ ["str", "int", "bool", "tuple", "list"] → PySem.W.kitOne K (.ref C) (.type T) = some false
def isiOK (T : String) (c : Str) : EV → Store → RE := fun x S => match x with
  | .ref l => match S[l]? with
    | some (.obj c' _) => if c' = c then .ok (bE false) S else .stuck
    | _ => vUn (isiG T) (.ref l) S
  | .tag .lo => .ok (bE (T == "list")) S
  | x => vUn (isiG T) x S
def isiOE (T : String) (c : Str) (fa : DE) : DE := RE1 (isiOK T c) fa
theorem und_isiO {K : PySem.W.Frag} {ca : Str → Addr} {W : WX} {T : String} {c : Str} (hT : T = "str" ∨ T = "int" ∨ T = "bool" ∨ T = "tuple" ∨ T = "list") (ic : IsC K (ca c)) (ib : IsB K (ca c)) : UnD K ca W (fun v H Q => rIsi K [v, .ty T] H Q) (isiOK T c) := by
  intro H0 env σ F H ρ F' H' ρ' S' v1 x Q n r p
  unfold isiOK at p
  split at p
  · rename_i l
    split at p
    · rename_i c' fs q
      split at p
      · rename_i hc
        subst hc
        obtain ⟨a, e1, e2⟩ := r
        obtain ⟨dx, vs, h1, h2⟩ := n.sim.cell l a _ e2 q
        subst e1
        exact ⟨.ref a, .ty T, .ref (ca c'), .type T, false, rfl, .ty T, .base (.ins h1 ic.cl ic.at_ ic.get ic.tak ic.mro), ib.bt T (by simpa using hT), fin_d n p (.bl _)⟩
      · exact p.elim
    · exact (unv_isi hT).d H0 env σ F H ρ F' H' ρ' S' v1 _ Q n r p
  · obtain ⟨a, vs, e1, e2⟩ := r
    subst e1
    have key : kitB "list" T = some (T == "list") := by
      rcases hT with rfl | rfl | rfl | rfl | rfl <;> decide +kernel
    exact ⟨.ref a, .ty T, .type "list", .type T, _, rfl, .ty T, .base (.lst (n.sim.fz _ _ e2)), kit_ty key, fin_d n p (.bl _)⟩
  · exact (unv_isi hT).d H0 env σ F H ρ F' H' ρ' S' v1 _ Q n r p
section
variable {X : Cx} {ca : Str → Addr} {W : WX} {a : Expr} {fa : DE} {p p2 pos : Pos}
theorem je_isiO {T : String} {x c : Str} (hT : T = "str" ∨ T = "int" ∨ T = "bool" ∨ T = "tuple" ∨ T = "list") (ic : IsC X.K (ca c)) (ib : IsB X.K (ca c)) (hg : Gl X "isinstance") (hm : X.mg "isinstance" = none) (hgT : Gl X x) (hmT : X.mg x = none) (hvT : bootBuiltins x = some (.type T)) (h : JE X ca W a fa) (hn : x ≠ "__name__" := by decide) (hdb : (x == ("__debug__" : Str)) = false := by decide) (he : starEach [a, .Name x p2] X.env = (false, eval a X.env) :: starEach [.Name x p2] X.env := by rfl) (he2 : starEach [.Name x p2] X.env = (false, eval (.Name x p2) X.env) :: starEach [] X.env := by rfl) :
    JE X ca W (.Call (.Name "isinstance" p) [a, .Name x p2] [] pos) (isiOE T c fa) :=
  imp_e (pe_callB call_isi hg hm PyProof.Rows.boot_isinstance (pa_cons h (pa_cons (pe_bltn (v := .ty T) hgT hmT hvT rfl hn hdb) pa_nil he2) he) (he := he) (hpl := by rw [he2]; rfl)) fun σ H Q h => te_un (und_isiO hT ic ib) h
end
/-! ### for x in [e1, .., en] -/
def forLD (t : DG) (body : DS) : List EV → DS
  | [] => fun env S => .next env S
  | d :: ds => fun env S => match t d env with
    | none => .stuck
    | some env1 => match body env1 S with
      | .next env' S' => forLD t body ds env' S'
      | .cont env' S' => forLD t body ds env' S'
      | .brk env' S' => .next env' S'
      | .ret v S' => .ret v S'
      | .raise e env' S' => .raise e env' S'
      | .stuck => .stuck
def forLE (fs : List DE) (t : DG) (body : DS) : DS := fun env S => (asL fs env S).bindS env fun xs S1 => forLD t body xs env S1
/-- the store's places as they stand are kept in mind -/
def Ses.at_ (z : Ses) (ρ : List Addr) : Ses := ⟨z.H0, z.F0, ρ⟩
section
variable {K : PySem.W.Frag} {ca : Str → Addr} {W : WX} {z : Ses} {F H F' H' : Hp} {ρ ρ' : List Addr} {S S' : Store} {env env' : Env} {σ σ' : L2.St} {D : Ends}
theorem stp_pin (s : Stp z.F0 z.H0 z.r0 F H ρ) (s' : Stp z.F0 z.H0 ρ F' H' ρ') : Stp z.F0 z.H0 z.r0 F' H' ρ' := by
  obtain ⟨n0, e0, h0⟩ := s.rho
  obtain ⟨n1, e1, h1⟩ := s'.rho
  refine ⟨s'.fz, s'.nfz, ⟨n0 ++ n1, by rw [e1, e0, List.append_assoc], fun a ha => ?_⟩, fun a o ha ho => s'.fr a o (fun hm => ?_) ho, s'.mono⟩
  · rcases List.mem_append.mp ha with q | q
    · exact h0 a q
    · exact h1 a q
  · rw [e0] at hm
    rcases List.mem_append.mp hm with q | q
    · exact ha q
    · rw [h0 a q] at ho
      cases ho
theorem SimS.pin (s : SimS K ca z F ρ S env σ H) : SimS K ca (z.at_ ρ) F ρ S env σ H := by
  refine ⟨s.sim, s.stp.fz, s.stp.nfz, ⟨[], by simp [Ses.at_], by simp⟩, fun a o ha ho => s.stp.fr a o (fun hm => ?_) ho, s.stp.mono⟩
  obtain ⟨n0, e0, _⟩ := s.stp.rho
  exact ha (by show a ∈ ρ; rw [e0]; exact List.mem_append_left _ hm)
theorem SimS.unpin (s : SimS K ca z F ρ S env σ H) (s' : SimS K ca (z.at_ ρ) F' ρ' S' env' σ' H') : SimS K ca z F' ρ' S' env' σ' H' := ⟨s'.sim, stp_pin s.stp s'.stp⟩
theorem PostS.pin (s : SimS K ca z F ρ S env σ H) {r : RS} {F1 : Hp} (p : PostS K ca W z F1 D r) : PostS K ca W (z.at_ ρ) F1 D r := by
  cases r with
  | next env' S' => exact fun σ' F' H' ρ' f s' => p σ' F' H' ρ' f (s.unpin s')
  | brk env' S' => exact fun σ' F' H' ρ' f s' => p σ' F' H' ρ' f (s.unpin s')
  | cont env' S' => exact fun σ' F' H' ρ' f s' => p σ' F' H' ρ' f (s.unpin s')
  | ret r S' => exact fun v F' H' ρ' st s' r => p v F' H' ρ' (stp_pin s.stp st) s' r
  | raise ex env' S' => exact fun cls d σ' F' H' ρ' f s' r => p cls d σ' F' H' ρ' f (s.unpin s') r
  | stuck => exact p
/-- a value that is no list of one's own keeps its meaning -/
theorem RepV.keep {B B' Hx Hy : Hp} {v : V} {ev : EV} (e : Same F F') (hr : ∃ new, ρ' = ρ ++ new) (h : RepV K F ρ B Hx v ev) (o : ev.isOwn = false) : RepV K F' ρ' B' Hy v ev := by
  cases ev with
  | d x => exact Dr.mono e h
  | own xs => cases o
  | ownD xs => cases o
  | bor xs => exact h.elim
  | borD xs => exact h.elim
  | ref l =>
    obtain ⟨a, e1, e2⟩ := h
    obtain ⟨new, rfl⟩ := hr
    exact ⟨a, e1, by rw [List.getElem?_append_left (List.getElem?_eq_some_iff.mp e2).1]; exact e2⟩
  | scr ns =>
    obtain ⟨a, e1, e2⟩ := h
    exact ⟨a, e1, same_l e e2⟩
  | opq w => exact h
  | fn w => exact h
  | tag t => exact RepTag.mono (K := K) (t := t) e h
end
theorem js_forL {X : Cx} {ca : Str → Addr} {W : WX} {tg : Expr} {es : List Expr} {pos2 : Pos} {body : List Stmt} {fs : List DE} {t : DG} {g : DS} {pos : Pos} (hp : PassesOwn (model X.prog X.w) X.A X.env X.xe) (hc : X.calm = true) {is : List Nat}
    (ha : JA X ca W es (asL fs)) (hg : JG X ca tg t is) (hb : JSs X ca W body g) (hl : fs.length ≤ 1000 := by decide)
    (hs : ∀ x, foldedSetIterable (.List es pos2) X.env x = pure x := by intro _; rfl) : JS X ca W (.For tg (.List es pos2) body [] pos) (forLE fs t g) := fun z => by
  have hb2 : PSs X body (fun D σ H => ∃ z', dTS X.K ca W z' g D σ H) := ⟨fun pins s σ H D I ⟨z', h⟩ => (hb z').run pins s σ H D I h⟩
  refine imp_s (ps_for hp hc (pi_any (pe_lst ha)) hg hb2 hs) fun D σ H ⟨F, ρ, S, env, s, p⟩ => ?_
  refine ⟨z.H0, F, ρ, S, env, s.sim, ?_⟩
  unfold forLE at p
  cases qa : asL fs env S with
  | raise e S1 =>
    simp only [qa, RA.bindS] at p
    exact fun cls d F1 H1 ρ1 n r => p cls d σ F1 H1 ρ1 n.stp.fz (s.on n) r
  | stuck =>
    simp only [qa, RA.bindS] at p
    exact p.elim
  | ok xs S1 =>
  simp only [qa, RA.bindS] at p
  intro vs F0 H0 ρ0 n0 pr
  have own := asL_own _ _ _ _ _ qa
  have hlen := asL_len _ _ _ _ _ qa
  have hv := Paired.length pr
  refine ⟨by rw [lim_eq]; unfold LIM; omega, fun a hpa => .inl ⟨a, rfl, ⟨vs, SqL.of upd_same⟩, ?_⟩⟩
  have n := n0.newF (o := .lst vs) hpa
  have hF0 : (upd F0 a (.lst vs)) a = some (.lst vs) := upd_same
  have sx : Same F0 (upd F0 a (.lst vs)) := same_fix (n0.sim.unfz hpa)
  have fz : ∀ {F' H' : Hp}, Same (upd F0 a (.lst vs)) F' → Same F' H' → SqL X.K H' a vs := fun f g => SqL.of (g _ _ (f _ _ hF0))
  have sn := s.on n
  have p1 := p.mono n.stp.fz
  have hit : ∀ i (h : i < xs.length), ∃ h' : i < vs.length, RepV X.K F0 ρ0 H H0 vs[i] xs[i] := fun i h => paired_at pr i h
  generalize upd F0 a (.lst vs) = F1 at n fz hF0 sx sn p1
  generalize upd H0 a (.lst vs) = H1 at n sn
  refine ⟨fun i m σ H => m = xs.length - i ∧ i ≤ xs.length ∧ ∃ F' ρ' S' env', Same F1 F' ∧ SimS X.K ca (z.at_ ρ0) F' ρ' S' env' σ H ∧ PostS X.K ca W (z.at_ ρ0) F' D (forLD t g (xs.drop i) env' S'),
    ⟨xs.length, by simp, Nat.zero_le _, F1, ρ0, S1, env, Same.refl _, sn.pin, p1.pin sn⟩, ?_⟩
  rintro i m σ2 H2 ⟨rfl, hi2, F2, ρ2, S2, env2, f2, s2, p2⟩
  by_cases hlt : i < xs.length
  · obtain ⟨hlv, rep⟩ := hit i hlt
    have hvi : vs[i]? = some vs[i] := List.getElem?_eq_getElem hlv
    refine .inr ⟨⟨vs, _, fz f2 s2.sim.fz, hvi⟩, fun σ' H' => ∃ F' ρ' S' env', Same F1 F' ∧ SimS X.K ca (z.at_ ρ0) F' ρ' S' env' σ' H' ∧ PostS X.K ca W (z.at_ ρ0) F' D (forLD t g (xs.drop (i + 1)) env' S'),
      fun σ' H' h => ⟨xs.length - (i + 1), by omega, rfl, hlt, h⟩, fun x H3 y => ?_⟩
    have ed : xs.drop i = xs[i] :: xs.drop (i + 1) := List.drop_eq_getElem_cons hlt
    rw [ed] at p2
    obtain ⟨e3, y3⟩ := y
    subst e3
    have hx := y3 vs (fz f2 s2.sim.fz)
    rw [hvi] at hx
    cases hx
    unfold forLD at p2
    have oi := own xs[i] (List.getElem_mem hlt)
    have rep2 : RepV X.K F2 ρ2 z.H0 H1 vs[i] xs[i] := rep.keep (Hy := H1) (sx.trans f2) (by
      obtain ⟨new, e, _⟩ := s2.stp.rho
      exact ⟨new, e⟩) oi
    cases q : t xs[i] env2 with
    | none => simp only [q] at p2; exact p2.elim
    | some env3 =>
      simp only [q] at p2
      refine ⟨z.H0, F2, ρ2, S2, env2, xs[i], env3, s2.sim, rep2.keep (Same.refl _) ⟨[], by simp⟩ oi, oi, q, fun σ4 s4 _ => ⟨z.at_ ρ0, F2, ρ2, S2, env3, ⟨s4, s2.stp⟩, ?_⟩⟩
      revert p2
      cases q2 : g env3 S2 with
      | next env' S' => exact fun p2 σ' F' H' ρ' f' s' => ⟨F', ρ', S', env', f2.trans f', s', p2.mono f'⟩
      | cont env' S' => exact fun p2 σ' F' H' ρ' f' s' => ⟨F', ρ', S', env', f2.trans f', s', p2.mono f'⟩
      | brk env' S' => exact fun p2 σ' F' H' ρ' f' s' => p2 σ' F' H' ρ' f' s'
      | ret v S' => exact fun p2 => p2
      | raise e env' S' => exact fun p2 cls d σ' F' H' ρ' f' s' r => p2 cls d σ' F' H' ρ' f' s' r
      | stuck => exact fun p2 => p2
  · have e : i = xs.length := by omega
    subst e
    rw [List.drop_length] at p2
    exact .inl ⟨⟨vs, fz f2 s2.sim.fz, by omega⟩, p2 σ2 F2 H2 ρ2 (Same.refl _) s2⟩
end DL

set_option Elab.async false
set_option linter.all false
set_option maxRecDepth 100000
set_option maxHeartbeats 4000000
/-! DL39: try with clauses, some of them with a name. -/
namespace DL
open PySem PySem.Spec PyProof.Rows L2

abbrev TsX : Type := Addr → Value → Option Addr → TS
def endsI (D : Ends) (i : Nat) : Ends := { nx := fun σ' H' => D.nx (σ'.set i none) H', rt := D.rt, bk := fun σ' H' => D.bk (σ'.set i none) H', ct := fun σ' H' => D.ct (σ'.set i none) H' }
def wMix (K : PySem.W.Frag) (Wout : WX) (D : Ends) : List (Value × Option Nat × TsX) → WX
  | [] => Wout
  | (c, none, ts) :: r => fun cls d σ H => ∃ b, PySem.W.exmOne K cls c = some b ∧ (b = true → ∀ a, H a = none → ts a cls d D σ H) ∧ (b = false → wMix K Wout D r cls d σ H)
  | (c, some i, ts) :: r => fun cls d σ H => ∃ b, PySem.W.exmOne K cls c = some b ∧ (b = true → ∀ a, H a = none → ts a cls d (endsI D i) (σ.set i (some (.ref a))) H) ∧ (b = false → wMix K Wout D r cls d σ H)
inductive HdsX (X : Cx) : List ExceptHandler → List (Value × Option Nat × TsX) → Prop
  | nil : HdsX X [] []
  | un {x : Str} {c : Value} {ts : TsX} {b₀ : Stmt} {suite : List Stmt} {np pos' : Pos} {hds : List ExceptHandler} {l : List (Value × Option Nat × TsX)} (hc : Names X x c)
      (hsu : ∀ (a : Addr) (oe : Obj) (cls : Value) (d : Option Addr) (pn : List (Addr × Obj)), Zc cls d oe → (∃ vs, oe.data = .fields vs) → PSs (X.suite a ((a, oe) :: pn)) (b₀ :: suite) (ts a cls d)) (r : HdsX X hds l) :
      HdsX X (.ExceptHandler (some (.Name x np)) none (b₀ :: suite) pos' :: hds) ((c, none, ts) :: l)
  | as_ {x n : Str} {i : Nat} {c : Value} {ts : TsX} {b₀ : Stmt} {suite : List Stmt} {np pos' : Pos} {hds : List ExceptHandler} {l : List (Value × Option Nat × TsX)} (hi : X.N[i]? = some n) (hln : X.env.kindOf n = some .local) (hc : Names X x c)
      (hsu : ∀ (a : Addr) (oe : Obj) (cls : Value) (d : Option Addr) (pn : List (Addr × Obj)), Zc cls d oe → (∃ vs, oe.data = .fields vs) → PSs (X.suite a ((a, oe) :: pn)) (b₀ :: suite) (ts a cls d)) (r : HdsX X hds l) :
      HdsX X (.ExceptHandler (some (.Name x np)) (some n) (b₀ :: suite) pos' :: hds) ((c, some i, ts) :: l)
section
variable {X : Cx} {body : List Stmt} {h₀ : ExceptHandler} {hds : List ExceptHandler} {l : List (Value × Option Nat × TsX)} {pos : Pos} {tb : WX → TS} {Wout : WX}
theorem ps_try_mix (hs : X.stack = X.env :: X.outer) (hf : X.env.frame = some X.env.locals) (hN : X.N.Nodup) (tk : Takes X Wout)
    (hb : ∀ (W : WX) (pn : List (Addr × Obj)) (xe : Value → Shared → Prop), Takes (X.tr pn xe) W → PassesOwn (model X.prog X.w) X.A X.env xe → PSs (X.tr pn xe) body (tb W))
    (hh : HdsX X (h₀ :: hds) l) : PS X (.Try body (h₀ :: hds) [] [] pos) (fun D σ H => tb (wMix X.K Wout D l) D σ H) := by
  refine ⟨fun pins s σ H D I h => ?_⟩
  have ok := I.ok
  have hfr : X.A.frames = some (X.env :: X.outer) := by rw [ok.frames, hs]
  refine wpAny_Try_except ?_
  refine wpAny_mono ((hb (wMix X.K Wout D l) (X.pn ++ pins) (fun e s₁ => wpAny (model X.prog X.w) X.A (noteFrame e X.env) (fun _ s₂ => wpAny (model X.prog X.w) X.A (setFlight e none) (fun _ s₃ =>
    wpAny (model X.prog X.w) X.A (handleBy e X.env (h₀ :: hds)) (SP X pins D) X.xe s₃) X.xe s₂) X.xe s₁) (fun u s' xx => ?_) PassesOwn.looking).run [] s σ H D (I.toTry _) h) (fun f s1 hsp => ?_) (fun e s1 he => he)
  · obtain ⟨a, B, sI, pins', σ', H', cls, d, rfl, J', nb, up, sky, na, os, ag, w⟩ := xx
    have J : Inv X pins σ' H' sI := J'.ofTry ok
    have sky' : Sky B (X.env :: X.outer) a (Zc cls d) X.env.locals s'.heap := by rw [← hs]; exact sky
    show wpAny (model X.prog X.w) X.A (noteFrame (.ref a) X.env) _ _ _
    refine Sky.land Zc.steady hfr hf sky' fun h3 fl3 up3 => ?_
    have J3 : Inv X pins σ' H' { s' with heap := h3 } := J.landed nb fl3.1 (up.trans up3) os ag
    obtain ⟨oe3, vs3, he3, hz3, hd3⟩ := fl3.there
    have notFr : ∀ {h : Heap} {o : Obj} {vs : Array Value}, h.FunFrames B (X.env :: X.outer) → h.get? a = some o → o.data = .fields vs → a ∉ frs (X.env :: X.outer) := fun {h o vs} ff e dd hm => by
      obtain ⟨_, o', e', hnf⟩ := ff.mem hm
      rw [e] at e'; cases e'
      exact hnf _ dd
    have nfr := notFr fl3.2.2.1 he3 hd3
    have nL : a ≠ X.env.locals := fun z => nfr (List.mem_filterMap.mpr ⟨X.env, List.mem_cons_self, by rw [hf, z]⟩)
    have nF : a ∉ X.fs := fun hm => by
      obtain ⟨e, he, q⟩ := List.mem_filterMap.mp hm
      exact nfr (List.mem_filterMap.mpr ⟨e, List.mem_cons_of_mem _ he, q⟩)
    have S3 := J3.suite he3 hd3 na nL nF
    have go : ∀ {hds' : List ExceptHandler} {l' : List (Value × Option Nat × TsX)}, HdsX X hds' l' → wMix X.K Wout D l' cls d σ' H' →
        wpAny (model X.prog X.w) X.A (handleBy (.ref a) X.env hds') (SP X pins D) X.xe { s' with heap := h3 } := by
      intro hds' l' hk
      induction hk with
      | nil =>
        intro w
        refine wpAny_handleBy_nil ?_
        obtain ⟨k1, k2, k3, oe, vs, T, oT, ts', he, hz, hd, h1, hr⟩ := id fl3
        unfold PySem.passOn
        refine wpAny_bind (wpAny_field he hd h1 ?_)
        rw [if_neg (show ¬ ((Value.ref T == Value.none) = true) from by simp)]
        have fin : wpAny (model X.prog X.w) X.A (setFlight (.ref a) X.env.frame) (fun _ s4 => wpAny (model X.prog X.w) X.A (throw (.ref a) : Sem Flow) (SP X pins D) X.xe s4) X.xe { s' with heap := h3 } := by
          rw [hf]
          refine HandSPX.setFlight_upZ fl3 fun h4 hh4 up4 => wpAny_throw (tk _ _ ?_)
          exact ⟨a, B, sI, pins, σ', H', cls, d, rfl, J, nb, (up.trans up3).trans up4, .inr (.inr (by rw [hs]; exact hh4)), na, os, ag, w⟩
        first
          | exact wpAny_bind (wpAny_pure (wpAny_bind fin))
          | exact wpAny_bind fin
      | @un x c ts b₀ suite np pos' hds2 l2 hc hsu r ih =>
        intro w
        obtain ⟨b, hb1, hyes, hno⟩ := w
        refine wpAny_handleBy_cons (codeAny_handlers_test ?_) (by intro q; cases q)
        have LT : PySem.W.Looks (model X.prog X.w) h3 (typeOf (.ref a)) cls := fun A Q E s k q => wpAny_typeOf_ref (k _ _ he3) (by rw [hz3.1]; exact q)
        have LM := PySem.W.exm_one (M := model X.prog X.w) (J3.kIn) LT hb1
        have test : ∀ {Q : Value → Shared → Prop} {E : Value → Shared → Prop}, Q c { s' with heap := h3 } → wpAny (model X.prog X.w) (X.A.mark (some (.ref a))) (eval (.Name x np) X.env) Q E { s' with heap := h3 } := fun {Q E} q => by
          obtain ⟨hg, hdbg, hm | ⟨hm, hv, hnn⟩⟩ := hc
          · exact ld_glob (X := X.suite a ((a, oe3) :: (X.pn ++ pins))) S3 hg hm q hdbg
          · exact ld_blt (X := X.suite a ((a, oe3) :: (X.pn ++ pins))) S3 hg hm hv q hnn hdbg
        refine test (LM.here ?_)
        cases b with
        | true =>
          refine codeAny_handlers_suite ?_
          refine HandSPX.lands_againZ fl3 fun h4 fl4 up4 => ?_
          have J4 : Inv X pins σ' H' { s' with heap := h4 } := J.landed nb fl4.1 ((up.trans up3).trans up4) os ag
          obtain ⟨oe4, vs4, he4, hz4, hd4⟩ := fl4.there
          have S4 := J4.suite he4 hd4 na nL nF
          refine wpAny_mono ((hsu a oe4 cls d (X.pn ++ pins) hz4 ⟨_, hd4⟩).run [] _ _ H' _ S4 (hyes rfl a na)) (fun f s6 hsp => ?_) (fun _ _ z => False.elim z)
          cases f with
          | next =>
            obtain ⟨σ6, H6, S6, q6⟩ := hsp
            exact ⟨_, _, S6.unsuite ok, q6⟩
          | brk =>
            obtain ⟨σ6, H6, S6, q6⟩ := hsp
            exact ⟨_, _, S6.unsuite ok, q6⟩
          | cont =>
            obtain ⟨σ6, H6, S6, q6⟩ := hsp
            exact ⟨_, _, S6.unsuite ok, q6⟩
          | ret u =>
            obtain ⟨v6, σ6, H6, S6, r6, q6⟩ := hsp
            exact ⟨_, _, _, S6.unsuite ok, r6, q6⟩
        | false =>
          show wpAny _ X.A (handleBy (.ref a) X.env hds2) _ _ _
          exact ih (hno rfl)
      | @as_ x n i c ts b₀ suite np pos' hds2 l2 hi hln hc hsu r ih =>
        intro w
        obtain ⟨b, hb1, hyes, hno⟩ := w
        have hloc : Loc X.env.scope n := .inl hln
        refine wpAny_handleBy_cons (codeAny_handlers_test ?_) (by intro q; cases q)
        have LT : PySem.W.Looks (model X.prog X.w) h3 (typeOf (.ref a)) cls := fun A Q E s k q => wpAny_typeOf_ref (k _ _ he3) (by rw [hz3.1]; exact q)
        have LM := PySem.W.exm_one (M := model X.prog X.w) (J3.kIn) LT hb1
        have test : ∀ {Q : Value → Shared → Prop} {E : Value → Shared → Prop}, Q c { s' with heap := h3 } → wpAny (model X.prog X.w) (X.A.mark (some (.ref a))) (eval (.Name x np) X.env) Q E { s' with heap := h3 } := fun {Q E} q => by
          obtain ⟨hg, hdbg, hm | ⟨hm, hv, hnn⟩⟩ := hc
          · exact ld_glob (X := X.suite a ((a, oe3) :: (X.pn ++ pins))) S3 hg hm q hdbg
          · exact ld_blt (X := X.suite a ((a, oe3) :: (X.pn ++ pins))) S3 hg hm hv q hnn hdbg
        refine test (LM.here ?_)
        cases b with
        | true =>
          refine codeAny_handlers_suite_as ?_
          refine HandSPX.lands_againZ fl3 fun h4 fl4 up4 => ?_
          have J4 : Inv X pins σ' H' { s' with heap := h4 } := J.landed nb fl4.1 ((up.trans up3).trans up4) os ag
          obtain ⟨oe4, vs4, he4, hz4, hd4⟩ := fl4.there
          have S4 := J4.suite he4 hd4 na nL nF
          refine store_ok (X := X.suite a ((a, oe4) :: (X.pn ++ pins))) (v := .ref a) S4 hN hi hloc rfl (fun s5 S5 => ?_) (.inr hln)
          refine wpAny_mono ((hsu a oe4 cls d (X.pn ++ pins) hz4 ⟨_, hd4⟩).run [] s5 _ H' _ S5 (hyes rfl a na)) (fun f s6 hsp => ?_) (fun _ _ z => False.elim z)
          have end_ : ∀ {σ6 : L2.St} {H6 : Hp} {Q : Shared → Prop}, Inv (X.suite a ((a, oe4) :: (X.pn ++ pins))) [] σ6 H6 s6 → (∀ s7, Inv X pins (σ6.set i none) H6 s7 → Q s7) →
              wpAny (model X.prog X.w) X.A (do bindName X.env n .none; unbindBehindTheSuite X.env n pos') (fun _ s7 => Q s7) X.xe s6 := fun {σ6 H6 Q} S6 hq => gone_ok (S6.unsuite ok) hN hi hln hq
          cases f with
          | next =>
            obtain ⟨σ6, H6, S6, q6⟩ := hsp
            exact end_ S6 fun s7 J7 => ⟨_, _, J7, q6⟩
          | brk =>
            obtain ⟨σ6, H6, S6, q6⟩ := hsp
            exact end_ S6 fun s7 J7 => ⟨_, _, J7, q6⟩
          | cont =>
            obtain ⟨σ6, H6, S6, q6⟩ := hsp
            exact end_ S6 fun s7 J7 => ⟨_, _, J7, q6⟩
          | ret u =>
            obtain ⟨v6, σ6, H6, S6, r6, q6⟩ := hsp
            exact end_ S6 fun s7 J7 => ⟨_, _, _, J7, r6, q6⟩
        | false =>
          show wpAny _ X.A (handleBy (.ref a) X.env hds2) _ _ _
          exact ih (hno rfl)
    exact go hh w
  · cases f with
    | next =>
      obtain ⟨σ', H', J', q⟩ := hsp
      exact wpAny_execs_nil ⟨σ', H', J'.ofTry ok, q⟩
    | brk =>
      obtain ⟨σ', H', J', q⟩ := hsp
      exact ⟨σ', H', J'.ofTry ok, q⟩
    | cont =>
      obtain ⟨σ', H', J', q⟩ := hsp
      exact ⟨σ', H', J'.ofTry ok, q⟩
    | ret u =>
      obtain ⟨v, σ', H', J', r, q⟩ := hsp
      exact ⟨v, σ', H', J'.ofTry ok, r, q⟩
end
/-! ### reckonings -/
abbrev Hdl : Type := Exc → Env → Store → RS
def hUn (g : DS) : Hdl := fun _ env S => g env S
/-- return G(e.f) -/
def hRet (x f : Str) (i : Nat) (G : Int → Option PyData) : Hdl := fun e env S => match e.fld with
  | some (f', .int k) => if e.cls = x ∧ f' = f ∧ i < env.length then (match G k with
    | some r => .ret (.d r) S
    | none => .stuck) else .stuck
  | _ => .stuck
def runX (e : Exc) (env : Env) (S : Store) : List (Str × Hdl) → RS
  | [] => .raise e env S
  | (y, h) :: hs => if exSub e.cls y = true then h e env S else runX e env S hs
def tryX (known : List Str) (body : DS) (hs : List (Str × Hdl)) : DS := fun env S => match body env S with
  | .raise e env' S' => if known.contains e.cls = true then runX e env' S' hs else .stuck
  | r => r
/-- a clause: what stands in it -/
inductive JHx (X : Cx) (ca : Str → Addr) (W : WX) (z : Ses) : List ExceptHandler → List (Str × Hdl) → List (Value × Option Nat × TsX) → Prop
  | nil : JHx X ca W z [] [] []
  | un {x : Str} {b : Stmt} {suite : List Stmt} {np pos : Pos} {g : DS} {hds : List ExceptHandler} {l : List (Str × Hdl)} {m : List (Value × Option Nat × TsX)} (hg : Gl X x) (hm : X.mg x = some (.ref (ca x))) (hdb : (x == ("__debug__" : Str)) = false)
      (hs : ∀ (a : Addr) (pn : List (Addr × Obj)), JSs (X.suite a pn) ca W (b :: suite) g) (r : JHx X ca W z hds l m) : JHx X ca W z (.ExceptHandler (some (.Name x np)) none (b :: suite) pos :: hds) ((x, hUn g) :: l) ((.ref (ca x), none, fun _ _ _ => dTS X.K ca W z g) :: m)
  | ret {x n f : Str} {i : Nat} {e : Expr} {np p3 pos : Pos} {te : Addr → Value → Option Addr → TE} {G : Int → Option PyData} {hds : List ExceptHandler} {l : List (Str × Hdl)} {m : List (Value × Option Nat × TsX)} (hi : X.N[i]? = some n) (hln : X.env.kindOf n = some .local) (hg : Gl X x) (hm : X.mg x = some (.ref (ca x)))
      (hdb : (x == ("__debug__" : Str)) = false) (he : ∀ (a : Addr) (oe : Obj) (cls : Value) (d : Option Addr) (pn : List (Addr × Obj)), Zc cls d oe → (∃ vs, oe.data = .fields vs) → PE (X.suite a ((a, oe) :: pn)) e (te a cls d))
      (sem : ∀ (a : Addr) (cls : Value) (d : Option Addr) (σ : L2.St) (H : Hp) (Q : VK) (dd : Addr) (k : Int) (r : PyData), σ[i]? = some (some (.ref a)) → cls = .ref (ca x) → d = some dd → H dd = some (.xd [(f, .int k)]) → G k = some r → (∀ v, (∀ F, Dr X.K F v r) → Q v H) → te a cls d σ H Q)
      (r : JHx X ca W z hds l m) : JHx X ca W z (.ExceptHandler (some (.Name x np)) (some n) [.Return (some e) p3] pos :: hds) ((x, hRet x f i G) :: l) ((.ref (ca x), some i, fun a cls d => tRet (te a cls d)) :: m)
section
variable {X : Cx} {ca : Str → Addr} {W : WX} {z : Ses}
theorem JHx.ok : ∀ {hds : List ExceptHandler} {l : List (Str × Hdl)} {m : List (Value × Option Nat × TsX)}, JHx X ca W z hds l m → HdsX X hds m
  | _, _, _, .nil => .nil
  | _, _, _, .un hg hm hdb hs r => .un ⟨hg, hdb, .inl hm⟩ (fun a oe cls d pn _ _ => hs a _ z) r.ok
  | _, _, _, .ret hi hln hg hm hdb he sem r => .as_ hi hln ⟨hg, hdb, .inl hm⟩ (fun a oe cls d pn hz hd => pss_one (ps_ret (he a oe cls d pn hz hd))) r.ok
theorem JHx.run {D : Ends} {F H : Hp} {ρ : List Addr} {S : Store} {env : Env} {σ : L2.St} {e : Exc} {cls : Value} {d : Option Addr} (s : SimS X.K ca z F ρ S env σ H) (er : ExcRep X.K ca F H cls d e) : ∀ {hds : List ExceptHandler} {hs : List (Str × Hdl)} {m : List (Value × Option Nat × TsX)}, JHx X ca W z hds hs m →
    (∀ y, y ∈ hs.map (·.1) → PySem.W.exmOne X.K (.ref (ca e.cls)) (.ref (ca y)) = some (exSub e.cls y)) → PostS X.K ca W z F D (runX e env S hs) → wMix X.K W D m cls d σ H
  | _, _, _, .nil, _, p => p cls d σ F H ρ (Same.refl _) s er
  | _, _, _, .un (x := y) (g := g) hg hm hdb hs r, hx, p => by
    have hy := hx y List.mem_cons_self
    have e1 : cls = .ref (ca e.cls) := er.1
    refine ⟨exSub e.cls y, by rw [e1]; exact hy, fun hb a _ => ?_, fun hb => ?_⟩
    · unfold runX at p
      rw [if_pos hb] at p
      exact ⟨F, ρ, S, env, s, p⟩
    · unfold runX at p
      rw [hb, if_neg Bool.false_ne_true] at p
      exact r.run s er (fun y hy => hx y (List.mem_cons_of_mem _ hy)) p
  | _, _, _, .ret (x := x) (f := f) (i := i) (te := te) (G := G) hi hln hg hm hdb he sem r, hx, p => by
    have hy := hx x List.mem_cons_self
    have e1 : cls = .ref (ca e.cls) := er.1
    refine ⟨exSub e.cls x, by rw [e1]; exact hy, fun hb a ha => ?_, fun hb => ?_⟩
    · unfold runX at p
      rw [if_pos hb] at p
      unfold hRet at p
      have er2 := er.2
      cases q2 : e.fld with
      | none => simp only [q2] at p; exact p.elim
      | some fd =>
        obtain ⟨f', dv⟩ := fd
        simp only [q2] at p er2
        cases dv with
        | int k =>
          simp only at p
          by_cases hff : e.cls = x ∧ f' = f ∧ i < env.length
          · rw [if_pos hff] at p
            obtain ⟨hcx, hff, hlt⟩ := hff
            obtain ⟨ddx, v, e4, e5, e6⟩ := er2
            cases e6
            cases q3 : G k with
            | none => simp only [q3] at p; exact p.elim
            | some r2 =>
              simp only [q3] at p
              have := s.sim.lenE
              refine sem a cls d (σ.set i (some (.ref a))) H _ ddx k r2 (by rw [List.getElem?_set_self (by omega)]) (by rw [e1, hcx]) e4 (by rw [← hff]; exact e5) q3 fun v hv => ?_
              exact p v F H ρ s.stp (sim_drop s.sim) (show Dr X.K F v r2 from hv F)
          · rw [if_neg hff] at p
            exact p.elim
        | _ => simp only at p; exact p.elim
    · unfold runX at p
      rw [hb, if_neg Bool.false_ne_true] at p
      exact r.run s er (fun y hy => hx y (List.mem_cons_of_mem _ hy)) p
end
theorem js_tryX {X : Cx} {ca : Str → Addr} {W : WX} {body : List Stmt} {h0 : ExceptHandler} {hds : List ExceptHandler} {l : List (Str × Hdl)} {g : DS} {known : List Str} {pos : Pos} (hs : X.stack = X.env :: X.outer) (hf : X.env.frame = some X.env.locals) (hN : X.N.Nodup) (tk : Takes X W)
    (hx : ∀ x, x ∈ known → ∀ y, y ∈ l.map (·.1) → PySem.W.exmOne X.K (.ref (ca x)) (.ref (ca y)) = some (exSub x y))
    (hb : ∀ (W' : WX) (pn : List (Addr × Obj)) (xe : Value → Shared → Prop), Takes (X.tr pn xe) W' → PassesOwn (model X.prog X.w) X.A X.env xe → JSs (X.tr pn xe) ca W' body g) (hh : ∀ z, ∃ m, JHx X ca W z (h0 :: hds) l m) :
    JS X ca W (.Try body (h0 :: hds) [] [] pos) (tryX known g l) := fun z => by
  obtain ⟨m, hm⟩ := hh z
  refine imp_s (ps_try_mix hs hf hN tk (tb := fun W' => dTS X.K ca W' z g) (fun W' pn xe t o => hb W' pn xe t o z) hm.ok) fun D σ H ⟨F, ρ, S, env, s, p⟩ => ?_
  refine ⟨F, ρ, S, env, s, ?_⟩
  unfold tryX at p
  revert p
  cases q : g env S with
  | raise e env' S' =>
    intro p
    simp only at p
    by_cases hk : known.contains e.cls = true
    · rw [if_pos hk] at p
      exact fun cls d σ' F' H' ρ' f s' er => hm.run s' er (hx e.cls (by simpa using hk)) (p.mono f)
    · rw [if_neg hk] at p
      exact p.elim
  | next env' S' => exact fun p => p
  | ret v S' => exact fun p => p
  | brk env' S' => exact fun p => p
  | cont env' S' => exact fun p => p
  | stuck => exact fun p => p
/-! ### return text + str(e.f) -/
def gTxt (m : Str) (k : Int) : Option PyData := if k.natAbs ≤ 1000000 then some (.str (m ++ Str.ofString (toString k))) else none
theorem pe_txt {X : Cx} {a C : Addr} {oe : Obj} {cls : Value} {d : Option Addr} {pn : List (Addr × Obj)} {m f n : Str} {i jj : Nat} {p p1 p2 p3 p4 p5 : Pos} (hg : Gl X "str") (hm : X.mg "str" = none) (T : XfC X.K C) (hno : PySem.W.findIn X.K (.ref C) f = some none) (hi : X.N[i]? = some n) (hln : X.env.kindOf n = some .local)
    (hnd : (n == ("__debug__" : Str)) = false) (hncd : (n == ("__classdict__" : Str)) = false) (hz : Zc cls d oe) (hd : ∃ vs, oe.data = .fields vs) (hab : attributeBase (.Name n p) f X.env (eval (.Name n p) X.env) = eval (.Name n p) X.env := by rfl)
    (he : starEach [.Attribute (.Name n p) f p1] X.env = (false, eval (.Attribute (.Name n p) f p1) X.env) :: starEach [] X.env := by rfl) :
    PE (X.suite a ((a, oe) :: pn)) (.BinOp (.Constant (.str m) jj p4) .Add (.Call (.Name "str" p2) [.Attribute (.Name n p) f p1] [] p3) p5) (fun σ H Q => tXf a cls d C f (tVar i) σ H fun v H1 => ∃ k : Int, v = .int k ∧ k.natAbs ≤ 1000000 ∧ m.length ≤ 1000 ∧ Q (.str (m ++ Str.ofString (toString k))) H1) := by
  have h1 : PE (X.suite a ((a, oe) :: pn)) (.Attribute (.Name n p) f p1) (tXf a cls d C f (tVar i)) := pe_xf T hno hz hd (pe_var hi (.inl hln) hnd hncd) hab
  have h2 := pe_callTy (X := X.suite a ((a, oe) :: pn)) (p := p2) (pos := p3) (call_str_int (X := X.suite a ((a, oe) :: pn))) hg hm PyProof.Rows.boot_str (pa_cons h1 pa_nil he) (by decide) (by decide) he
  have h3 := pe_op (X := X.suite a ((a, oe) :: pn)) (pos := p5) op_add_str (pe_str (x := m) (j := jj) (pos := p4)) h2
  refine ⟨fun pins s σ H Q I q => h3.run pins s σ H Q I ?_⟩
  obtain ⟨u, hu, e1, e2, dd, fs, v, e3, e4, e5, k, k1, k2, k3, q⟩ := q
  subst k1
  have hlog : k.natAbs.log2 < 1920 := by
    by_cases h0 : k.natAbs = 0
    · rw [h0]; decide
    · have : k.natAbs.log2 < 21 := (Nat.log2_lt h0).mpr (by omega)
      omega
  have htx := PyProof.Rows.int_text_len_1921 hlog
  have hsz : (3000 : Nat) ≤ sizeLine := by decide
  exact ⟨u, hu, e1, e2, dd, fs, .int k, e3, e4, e5, k, rfl, hlog, m, _, rfl, rfl, by omega, q⟩
/-- the clause's facts -/
theorem sem_txt {K : PySem.W.Frag} {m f : Str} {i : Nat} {x : Str} {ca : Str → Addr} (hml : m.length ≤ 1000) : ∀ (a : Addr) (cls : Value) (d : Option Addr) (σ : L2.St) (H : Hp) (Q : VK) (dd : Addr) (k : Int) (r : PyData), σ[i]? = some (some (.ref a)) → cls = .ref (ca x) → d = some dd → H dd = some (.xd [(f, .int k)]) → gTxt m k = some r → (∀ v, (∀ F, Dr K F v r) → Q v H) →
    tXf a cls d (ca x) f (tVar i) σ H fun v H1 => ∃ k : Int, v = .int k ∧ k.natAbs ≤ 1000000 ∧ m.length ≤ 1000 ∧ Q (.str (m ++ Str.ofString (toString k))) H1 := fun a cls d σ H Q dd k r h1 h2 h3 h4 h5 h6 => by
  unfold gTxt at h5
  by_cases hk : k.natAbs ≤ 1000000
  · rw [if_pos hk] at h5
    cases h5
    exact ⟨_, h1, rfl, h2, dd, _, .int k, h3, h4, by simp [List.lookup], k, rfl, hk, hml, h6 _ fun F => .str _⟩
  · rw [if_neg hk] at h5
    cases h5
end DL

set_option Elab.async false
set_option linter.all false
set_option maxRecDepth 100000
set_option maxHeartbeats 4000000
/-! DL40: checks of own operators. -/
namespace DL
open PySem PySem.Spec PyProof.Rows L2

def iscB (K : PySem.W.Frag) (C : Addr) : Bool := eqO (PySem.W.findIn K (.ref C) "__class__") (some (some (.builtin "object.__class__"))) && (eqO (PySem.W.specialIn K (.builtin "object.__class__") "__get__") (some (some (.builtin "getset_descriptor.__get__"))) && (decide (PySem.W.takesIn K (.builtin "object.__class__") = some true) &&
  (decide (PySem.W.mroIn K C (.type "object") = some true) && (decide (PySem.W.kitOne K (.ref C) (.ref C) = some true) && (["NoneType", "bool", "int", "str", "list", "tuple", "dict"].all fun T => decide (PySem.W.kitOne K (.type T) (.ref C) = some false))))))
theorem iscB_ok {K : PySem.W.Frag} {C : Addr} (cl : Cls K C) (h : iscB K C = true) : IsC K C := by
  obtain ⟨h1, h⟩ := He.ba h
  obtain ⟨h2, h⟩ := He.ba h
  obtain ⟨h3, h⟩ := He.ba h
  obtain ⟨h4, h⟩ := He.ba h
  obtain ⟨h5, h6⟩ := He.ba h
  exact ⟨cl, eqO_ok h1, eqO_ok h2, of_decide_eq_true h3, of_decide_eq_true h4, of_decide_eq_true h5, fun T hT => of_decide_eq_true (List.all_eq_true.mp h6 T hT)⟩
def isbB (K : PySem.W.Frag) (C : Addr) : Bool := ["str", "int", "bool", "tuple", "list"].all fun T => decide (PySem.W.kitOne K (.ref C) (.type T) = some false)
theorem isbB_ok {K : PySem.W.Frag} {C : Addr} (h : isbB K C = true) : IsB K C := ⟨fun T hT => of_decide_eq_true (List.all_eq_true.mp h T hT)⟩
def opcB (K : PySem.W.Frag) (C f : Addr) (op : Operator) : Bool := PySem.W.selfFirst K C && (eqO (PySem.W.findIn K (.ref C) (PySem.dunder op.info.2)) (some (some (.ref f))) && (PySem.W.isFn K (.ref f) && (eqO (PySem.W.findIn K (.ref C) (dunderR op.info.2)) (some none) &&
  (tys.all fun T => (PySem.W.findIn K (.type T) (PySem.dunder op.info.2)).isSome && ((PySem.W.findIn K (.type T) (dunderR op.info.2)).isSome && decide (PySem.W.subIn K (.type T) (.ref C) = some false))))))
theorem opcB_ok {K : PySem.W.Frag} {C f : Addr} {op : Operator} (cl : Cls K C) (h : opcB K C f op = true) : OpC K C f op := by
  obtain ⟨h1, h⟩ := He.ba h
  obtain ⟨h2, h⟩ := He.ba h
  obtain ⟨h3, h⟩ := He.ba h
  obtain ⟨h4, h5⟩ := He.ba h
  refine ⟨cl, h1, eqO_ok h2, h3, eqO_ok h4, fun T hT => ?_⟩
  obtain ⟨a, b⟩ := He.ba (List.all_eq_true.mp h5 T hT)
  obtain ⟨b, c⟩ := He.ba b
  exact ⟨a, b, of_decide_eq_true c⟩
/-- an own class answers op= by the method at f -/
structure AugC (K : PySem.W.Frag) (C f : Addr) (op : Operator) : Prop where
  first : PySem.W.selfFirst K C = true
  at_ : PySem.W.findIn K (.ref C) (dunderI op.info.2) = some (some (.ref f))
  fn : PySem.W.isFn K (.ref f) = true
def augB (K : PySem.W.Frag) (C f : Addr) (op : Operator) : Bool := PySem.W.selfFirst K C && (eqO (PySem.W.findIn K (.ref C) (dunderI op.info.2)) (some (some (.ref f))) && PySem.W.isFn K (.ref f))
theorem augB_ok {K : PySem.W.Frag} {C f : Addr} {op : Operator} (h : augB K C f op = true) : AugC K C f op := by
  obtain ⟨h1, h⟩ := He.ba h
  obtain ⟨h2, h3⟩ := He.ba h
  exact ⟨h1, eqO_ok h2, h3⟩
def owmB (K : PySem.W.Frag) (C f : Addr) (m : Str) : Bool := eqO (PySem.W.findIn K (.ref C) m) (some (some (.ref f))) && (PySem.W.isFn K (.ref f) && PySem.W.fnIn K f)
theorem owmB_ok {K : PySem.W.Frag} {C f : Addr} {m : Str} (cl : Cls K C) (h : owmB K C f m = true) : OwM K C m f := by
  obtain ⟨h1, h⟩ := He.ba h
  obtain ⟨h2, h3⟩ := He.ba h
  exact ⟨cl, eqO_ok h1, h2, h3⟩
theorem js_aug {X : Cx} {ca : Str → Addr} {W : WX} {k i : Nat} {f : Addr} {Ff : DF} {c x : Str} {op : Operator} {e : Expr} {fe : DE} {pos pos' : Pos} (A : AugC X.K (ca c) f op) (F : JR X.prog X.w X.K X.mg X.base ca k f 2 Ff) (hr : Room k X.A) (tk : Takes X W)
    (hN : X.N.Nodup) (hi : X.N[i]? = some x) (hl : X.env.scope.names.lookup x = some .local) (he : JE X ca W e fe) : JS X ca W (.AugAssign (.Name x pos') op e pos) (ownS i c Ff fe) := js_own A.first A.at_ A.fn F hr tk hN hi hl he
end DL

set_option Elab.async false
set_option linter.all false
set_option maxRecDepth 100000
set_option maxHeartbeats 0
namespace U
open PySem PySem.Spec PyProof.Rows L2 DL
noncomputable section
def g_is_name : DS := retS (andE (isiE "str" (rdE 0)) (inE (rdE 0) (cE (.tuple [(.str ("a" : Str)), (.str ("b" : Str)), (.str ("c" : Str))]))))
def F_is_name : DF := fnD 1 g_is_name
def g_is_thing : DS := seqS (ifS (andE (isiE "int" (rdE 0)) (notE (isiE "bool" (rdE 0)))) (retS (chE leG leG (cE (.int 0)) (rdE 0) (cE (.int 99)))) (nopS)) (retS (callE (F_is_name) (asL [rdE 0])))
def F_is_thing : DF := fnD 1 g_is_thing
def g_is_group : DS := retS (andE (isiE "tuple" (rdE 0)) (andE (eqE (lenE (rdE 0)) (cE (.int 2))) (andE (callE (F_is_name) (asL [ixE (rdE 0) (cE (.int 0))])) (isiE "tuple" (ixE (rdE 0) (cE (.int 1)))))))
def F_is_group : DF := fnD 1 g_is_group
def b_all_things_1 (F : DF) : DS := asgO 1 (addE (rdE 1) (ifE (isiE "tuple" (rdE 2)) (callE (F) (asL [ixE (rdE 2) (cE (.int 1))])) (lstE [rdE 2])))
def g_all_things (F : DF) : DS := seqS (asgO 1 (lstE [])) (seqS (forS (itE (rdE 0)) (tgN 2) (b_all_things_1 F)) (retS (rdE 1)))
def F_all_things : Nat → DF
  | 0 => fun _ _ => .stuck
  | d + 1 => fnD 3 (g_all_things (F_all_things d))
def b_group_names_1 (F : DF) : DS := ifS (isiE "tuple" (rdE 2)) (asgF 1 (addE (addE (rdE 1) (lstE [ixE (rdE 2) (cE (.int 0))])) (callE (F) (asL [ixE (rdE 2) (cE (.int 1))])))) (nopS)
def g_group_names (F : DF) : DS := seqS (asgF 1 (lstE [])) (seqS (forS (itE (rdE 0)) (tgN 2) (b_group_names_1 F)) (retS (rdE 1)))
def F_group_names : Nat → DF
  | 0 => fun _ _ => .stuck
  | d + 1 => fnD 3 (g_group_names (F_group_names d))
def b_are_items_1 (F : DF) : DS := seqS (ifS (andE (notE (callE (F_is_thing) (asL [rdE 2]))) (notE (callE (F_is_group) (asL [rdE 2])))) (retS (cE (.bool false))) (nopS)) (ifS (andE (isiE "tuple" (rdE 2)) (orE (eqE (rdE 1) (cE (.int 0))) (notE (callE (F) (asL [ixE (rdE 2) (cE (.int 1)), subE (rdE 1) (cE (.int 1))]))))) (retS (cE (.bool false))) (nopS))
def g_are_items (F : DF) : DS := seqS (ifS (notE (isiE "tuple" (rdE 0))) (retS (cE (.bool false))) (nopS)) (seqS (forS (itE (rdE 0)) (tgN 2) (b_are_items_1 F)) (retS (cE (.bool true))))
def F_are_items : Nat → DF
  | 0 => fun _ _ => .stuck
  | d + 1 => fnD 3 (g_are_items (F_are_items d))
def e_is_right_drawing_1 : DE := ninE (rdE 3) (rdE 1)
def g_is_right_drawing : DS := seqS (ifS (notE (callE (F_are_items 40) (asL [rdE 0, lenE (cE (.tuple [(.str ("a" : Str)), (.str ("b" : Str)), (.str ("c" : Str))]))]))) (retS (cE (.bool false))) (nopS)) (seqS (asgG (tgT [1, 2]) (tupE [callE (F_all_things 40) (asL [rdE 0]), callE (F_group_names 40) (asL [rdE 0])])) (seqS (ifS (orE (gtE (lenE (rdE 1)) (cE (.int 40))) (orE (ltE (lenSetE (rdE 1)) (lenE (rdE 1))) (ltE (lenSetE (rdE 2)) (lenE (rdE 2))))) (retS (cE (.bool false))) (nopS)) (retS (allE (lcE (itE (rdE 2)) [3] (tgN 3) none (e_is_right_drawing_1))))))
def F_is_right_drawing : DF := fnD 4 g_is_right_drawing
def e_is_right_command_1 : DE := callE (F_is_name) (asL [rdE 2])
def g_is_right_command : DS := seqS (ifS (orE (notE (isiE "tuple" (rdE 0))) (orE (eqE (rdE 0) (tupE [])) (notE (isiE "str" (ixE (rdE 0) (cE (.int 0))))))) (retS (cE (.bool false))) (nopS)) (seqS (asgF 1 (slE (rdE 0) (some (cE (.int 1))) none)) (seqS (ifS (orE (notE (allE (lcE (itE (rdE 1)) [2] (tgN 2) none (e_is_right_command_1)))) (ltE (lenSetE (rdE 1)) (lenE (rdE 1)))) (retS (cE (.bool false))) (nopS)) (seqS (ifS (inE (ixE (rdE 0) (cE (.int 0))) (cE (.tuple [(.str ("front" : Str)), (.str ("back" : Str)), (.str ("up" : Str)), (.str ("down" : Str)), (.str ("ungroup" : Str))]))) (retS (eqE (lenE (rdE 1)) (cE (.int 1)))) (nopS)) (seqS (ifS (inE (ixE (rdE 0) (cE (.int 0))) (cE (.tuple [(.str ("above" : Str)), (.str ("below" : Str))]))) (retS (eqE (lenE (rdE 1)) (cE (.int 2)))) (nopS)) (retS (andE (eqE (ixE (rdE 0) (cE (.int 0))) (cE (.str ("group" : Str)))) (eqE (lenE (rdE 1)) (cE (.int 3)))))))))
def F_is_right_command : DF := fnD 3 g_is_right_command
def e_is_right_script_1 : DE := callE (F_is_right_command) (asL [rdE 1])
def g_is_right_script : DS := retS (andE (isiE "tuple" (rdE 0)) (andE (leE (lenE (rdE 0)) (cE (.int 4))) (allE (lcE (itE (rdE 0)) [1] (tgN 1) none (e_is_right_script_1)))))
def F_is_right_script : DF := fnD 2 g_is_right_script
def g_is_drawing : DS := retS (callE (F_is_right_drawing) (asL [rdE 0]))
def F_is_drawing : DF := fnD 1 g_is_drawing
def g_is_plain : DS := retS (andE (callE (F_is_right_drawing) (asL [rdE 0])) (eqE (callE (F_group_names 40) (asL [rdE 0])) (lstE [])))
def F_is_plain : DF := fnD 1 g_is_plain
def g_is_command : DS := retS (callE (F_is_right_command) (asL [rdE 0]))
def F_is_command : DF := fnD 1 g_is_command
def g_is_script : DS := retS (callE (F_is_right_script) (asL [rdE 0]))
def F_is_script : DF := fnD 1 g_is_script
def g__law_source : DS := seqS (asgF 2 (cE (.int 0))) (seqS (ifS (gtE (lenE (rdE 0)) (rdE 1)) (asgF 2 (intE (ixE (rdE 0) (rdE 1)))) (nopS)) (seqS (asgF 3 (modE (addE (addE (mulE (rdE 2) (cE (.int 16807))) (mulE (cE (.int 60919)) (rdE 1))) (cE (.int 31))) (cE (.int 2147481173)))) (seqS (asgF 3 (addE (addE (modE (mulE (rdE 3) (rdE 3)) (cE (.int 2147481151))) (mulE (cE (.int 2)) (rdE 1))) (cE (.int 5)))) (retS (lstE [ifE (geE (rdE 2) (powE (cE (.int 10)) (cE (.int 18)))) (rdE 2) (cE (.int 0)), rdE 3])))))
def F__law_source : DF := fnD 4 g__law_source
def g__law_pick : DS := seqS (ifS (gtE (ixE (rdE 0) (cE (.int 0))) (cE (.int 0))) (seqS (asgF 2 (modE (intE (ixE (rdE 0) (cE (.int 0)))) (rdE 1))) (seqS (setS 0 (cE (.int 0)) (divE (intE (ixE (rdE 0) (cE (.int 0)))) (rdE 1))) (retS (rdE 2)))) (nopS)) (seqS (setS 0 (cE (.int 1)) (modE (intE (addE (mulE (ixE (rdE 0) (cE (.int 1))) (cE (.int 44497))) (cE (.int 9973)))) (cE (.int 2147483647)))) (retS (modE (divE (modE (intE (mulE (ixE (rdE 0) (cE (.int 1))) (ixE (rdE 0) (cE (.int 1))))) (cE (.int 2147483399))) (cE (.int 11))) (rdE 1))))
def F__law_pick : DF := fnD 3 g__law_pick
def g__law_chosen : DS := retS (ixE (rdE 1) (callE (F__law_pick) (asL [rdE 0, lenE (rdE 1)])))
def F__law_chosen : DF := fnD 2 g__law_chosen
def g__law_is_bool : DS := retS (andE (isiE "bool" (rdE 0)) (eqE (rdE 0) (rdE 1)))
def F__law_is_bool : DF := fnD 2 g__law_is_bool
def g__law_wide : DS := retS (andE (isiE "tuple" (rdE 0)) (chE leG leG (rdE 1) (lenE (rdE 0)) (rdE 2)))
def F__law_wide : DF := fnD 3 g__law_wide
def e__law_any_value_1 (F : DF) : DE := callE (F) (asL [rdE 0, subE (rdE 1) (cE (.int 1))])
def g__law_any_value (F : DF) : DS := seqS (asgF 2 (lstE [cE .none, cE (.bool true), cE (.bool false), cE (.int 0), cE (.int 1), cE (.int 5), cE (.int 100), negE (cE (.int 2)), powE (cE (.int 10)) (cE (.int 12)), cE (.str ("" : Str)), cE (.str ("a" : Str)), cE (.str ("ab" : Str)), cE (.str ("d" : Str)), cE (.str ("front" : Str)), cE (.str ("A" : Str)), cE (.str ("z z" : Str)), tupE [], lstE [], tupE [cE (.str ("a" : Str))]])) (seqS (asgF 3 (callE (F__law_pick) (asL [rdE 0, cE (.int 8)]))) (seqS (ifS (orE (ltE (rdE 1) (cE (.int 1))) (ltE (rdE 3) (cE (.int 5)))) (retS (callE (F__law_chosen) (asL [rdE 0, rdE 2]))) (nopS)) (seqS (asgF 4 (lcE (rng1 (callE (F__law_pick) (asL [rdE 0, cE (.int 5)]))) [5] (tgN 5) none (e__law_any_value_1 F))) (retS (ifE (eqE (rdE 3) (cE (.int 5))) (rdE 4) (tupOfE (rdE 4)))))))
def F__law_any_value : Nat → DF
  | 0 => fun _ _ => .stuck
  | d + 1 => fnD 6 (g__law_any_value (F__law_any_value d))
def g__law_variant (F : DF) : DS := seqS (asgO 3 (listOfE (rdE 1))) (seqS (ifS (eqE (rdE 3) (lstE [])) (retS (tupE [callE (F__law_any_value 6) (asL [rdE 0, cE (.int 1)])])) (nopS)) (seqS (parO 4 5 (callE (F__law_pick) (asL [rdE 0, lenE (rdE 3)])) (callE (F__law_pick) (asL [rdE 0, cE (.int 9)]))) (seqS (asgF 6 (ixE (rdE 3) (rdE 4))) (seqS (ifS (andE (isiE "tuple" (rdE 6)) (andE (gtE (rdE 2) (cE (.int 0))) (gtE (rdE 5) (cE (.int 2))))) (retS (addE (addE (tupOfE (slE (rdE 3) none (some (rdE 4)))) (tupE [callE (F) (asL [rdE 0, rdE 6, subE (rdE 2) (cE (.int 1))])])) (tupOfE (slE (rdE 3) (some (addE (rdE 4) (cE (.int 1)))) none)))) (nopS)) (seqS (ifS (eqE (rdE 5) (cE (.int 0))) (retS (tupOfE (addE (slE (rdE 3) none (some (rdE 4))) (slE (rdE 3) (some (addE (rdE 4) (cE (.int 1)))) none)))) (nopS)) (seqS (ifS (eqE (rdE 5) (cE (.int 1))) (retS (tupOfE (addE (slE (rdE 3) none (some (addE (rdE 4) (cE (.int 1))))) (slE (rdE 3) (some (rdE 4)) none)))) (nopS)) (seqS (ifS (eqE (rdE 5) (cE (.int 2))) (retS (tupOfE (addE (addE (slE (rdE 3) none (some (rdE 4))) (revE (slE (rdE 3) (some (rdE 4)) (some (addE (rdE 4) (cE (.int 2))))))) (slE (rdE 3) (some (addE (rdE 4) (cE (.int 2)))) none)))) (nopS)) (seqS (ifS (eqE (rdE 5) (cE (.int 3))) (retS (rdE 3)) (nopS)) (seqS (ifS (ltE (rdE 5) (cE (.int 6))) (setS 3 (rdE 4) (callE (F__law_any_value 6) (asL [rdE 0, cE (.int 2)]))) (seqS (asgF 7 (lstE [cE (.str ("a" : Str)), cE (.str ("b" : Str)), cE (.str ("c" : Str)), cE (.str ("d" : Str)), cE (.str ("front" : Str)), cE (.str ("up" : Str)), cE (.str ("above" : Str)), cE (.str ("group" : Str)), cE (.str ("ungroup" : Str)), tupE [cE (.str ("a" : Str)), tupE []], tupE [cE (.str ("b" : Str)), tupE [cE (.int 7), cE (.int 8)]], tupE [cE (.str ("c" : Str)), tupE [cE (.int 9)]]])) (setS 3 (rdE 4) (callE (F__law_chosen) (asL [rdE 0, addE (rdE 7) (lstE [cE .none, cE (.int 0), cE (.int 1), cE (.int 2), cE (.int 99), cE (.int 100), tupE [], lstE []])]))))) (retS (tupOfE (rdE 3))))))))))))
def F__law_variant : Nat → DF
  | 0 => fun _ _ => .stuck
  | d + 1 => fnD 8 (g__law_variant (F__law_variant d))
def g__law_whole : DS := retS (andE (isiE "int" (rdE 0)) (andE (notE (isiE "bool" (rdE 0))) (chE leG leG (rdE 1) (rdE 0) (rdE 2))))
def F__law_whole : DF := fnD 3 g__law_whole
def g__law_is_name : DS := retS (andE (isiE "str" (rdE 0)) (inE (rdE 0) (tupE [cE (.str ("a" : Str)), cE (.str ("b" : Str)), cE (.str ("c" : Str))])))
def F__law_is_name : DF := fnD 1 g__law_is_name
def b__law_ids_1 (F : DF) : DS := ifS (andE (callE (F__law_wide) (asL [rdE 2, cE (.int 2), cE (.int 2)])) (andE (callE (F__law_is_name) (asL [ixE (rdE 2) (cE (.int 0))])) (isiE "tuple" (ixE (rdE 2) (cE (.int 1)))))) (asgO 1 (addE (addE (rdE 1) (lstE [ixE (rdE 2) (cE (.int 0))])) (callE (F) (asL [ixE (rdE 2) (cE (.int 1))])))) (appS 1 (ifE (orE (callE (F__law_is_name) (asL [rdE 2])) (callE (F__law_whole) (asL [rdE 2, cE (.int 0), cE (.int 99)]))) (rdE 2) (cE .none)))
def g__law_ids (F : DF) : DS := seqS (asgO 1 (lstE [])) (seqS (forS (itE (rdE 0)) (tgN 2) (b__law_ids_1 F)) (retS (rdE 1)))
def F__law_ids : Nat → DF
  | 0 => fun _ _ => .stuck
  | d + 1 => fnD 3 (g__law_ids (F__law_ids d))
def b__law_things_1 (F : DF) : DS := asgF 1 (addE (rdE 1) (ifE (isiE "tuple" (rdE 2)) (callE (F) (asL [ixE (rdE 2) (cE (.int 1))])) (lstE [rdE 2])))
def g__law_things (F : DF) : DS := seqS (asgF 1 (lstE [])) (seqS (forS (itE (rdE 0)) (tgN 2) (b__law_things_1 F)) (retS (rdE 1)))
def F__law_things : Nat → DF
  | 0 => fun _ _ => .stuck
  | d + 1 => fnD 3 (g__law_things (F__law_things d))
def g__law_good_drawing : DS := seqS (ifS (notE (isiE "tuple" (rdE 0))) (retS (cE (.bool false))) (nopS)) (seqS (asgF 1 (callE (F__law_ids 40) (asL [rdE 0]))) (retS (andE (ninE (cE .none) (rdE 1)) (andE (eqE (lenSetE (rdE 1)) (lenE (rdE 1))) (leE (lenE (callE (F__law_things 40) (asL [rdE 0]))) (cE (.int 40)))))))
def F__law_good_drawing : DF := fnD 2 g__law_good_drawing
def c__law_good_command_1 : DE := notE (callE (F__law_is_name) (asL [rdE 3]))
def e__law_good_command_1 : DE := rdE 3
def g__law_good_command : DS := seqS (ifS (orE (notE (isiE "tuple" (rdE 0))) (orE (eqE (rdE 0) (tupE [])) (notE (isiE "str" (ixE (rdE 0) (cE (.int 0))))))) (retS (cE (.bool false))) (nopS)) (seqS (asgF 1 (dictE [(("front" : Str), cE (.int 2)), (("back" : Str), cE (.int 2)), (("up" : Str), cE (.int 2)), (("down" : Str), cE (.int 2)), (("ungroup" : Str), cE (.int 2)), (("above" : Str), cE (.int 3)), (("below" : Str), cE (.int 3)), (("group" : Str), cE (.int 4))])) (seqS (ifS (neE (lenE (rdE 0)) (get2E (rdE 1) (ixE (rdE 0) (cE (.int 0))) (cE (.int 0)))) (retS (cE (.bool false))) (nopS)) (seqS (asgF 2 (listOfE (slE (rdE 0) (some (cE (.int 1))) none))) (retS (andE (eqE (lcE (itE (rdE 2)) [3] (tgN 3) (some (c__law_good_command_1)) (e__law_good_command_1)) (lstE [])) (eqE (lenSetE (rdE 2)) (lenE (rdE 2))))))))
def F__law_good_command : DF := fnD 4 g__law_good_command
def c__law_good_script_1 : DE := notE (callE (F__law_good_command) (asL [rdE 1]))
def e__law_good_script_1 : DE := rdE 1
def g__law_good_script : DS := retS (andE (callE (F__law_wide) (asL [rdE 0, cE (.int 0), cE (.int 4)])) (eqE (lcE (itE (rdE 0)) [1] (tgN 1) (some (c__law_good_script_1)) (e__law_good_script_1)) (lstE [])))
def F__law_good_script : DF := fnD 2 g__law_good_script
def g__law_three : DS := retS (listOfE (callE (F__law_chosen) (asL [rdE 0, lstE [cE (.str ("abc" : Str)), cE (.str ("acb" : Str)), cE (.str ("bac" : Str)), cE (.str ("bca" : Str)), cE (.str ("cab" : Str)), cE (.str ("cba" : Str))]])))
def F__law_three : DF := fnD 1 g__law_three
def g__law_command : DS := seqS (asgG (tgL [1, 2, 3]) (callE (F__law_three) (asL [rdE 0]))) (seqS (asgF 4 (callE (F__law_pick) (asL [rdE 0, cE (.int 12)]))) (seqS (ifS (ltE (rdE 4) (cE (.int 6))) (retS (tupE [ixE (lstE [cE (.str ("front" : Str)), cE (.str ("back" : Str)), cE (.str ("up" : Str)), cE (.str ("down" : Str)), cE (.str ("up" : Str)), cE (.str ("ungroup" : Str))]) (rdE 4), rdE 1])) (nopS)) (seqS (ifS (ltE (rdE 4) (cE (.int 9))) (retS (tupE [ixE (lstE [cE (.str ("above" : Str)), cE (.str ("below" : Str)), cE (.str ("above" : Str))]) (subE (rdE 4) (cE (.int 6))), rdE 1, rdE 2])) (nopS)) (retS (tupE [cE (.str ("group" : Str)), rdE 1, rdE 2, rdE 3])))))
def F__law_command : DF := fnD 5 g__law_command
def e__law_script_1 : DE := callE (F__law_command) (asL [rdE 0])
def g__law_script : DS := retS (tupOfE (lcE (rng1 (callE (F__law_pick) (asL [rdE 0, addE (rdE 1) (cE (.int 1))]))) [2] (tgN 2) none (e__law_script_1)))
def F__law_script : DF := fnD 3 g__law_script
def c__law_mixed_1 : DE := neE (rdE 2) (lstE [])
def b__law_mixed_1 : DS := appPop 3 2 (callE (F__law_pick) (asL [rdE 0, lenE (rdE 2)]))
def g__law_mixed : DS := seqS (parO 2 3 (listOfE (rdE 1)) (lstE [])) (seqS (whD (c__law_mixed_1) (b__law_mixed_1) 200) (retS (rdE 3)))
def F__law_mixed : DF := fnD 4 g__law_mixed
def e__law_drawing_1 : DE := modE (addE (mulE (cE (.int 7)) (rdE 10)) (cE (.int 3))) (cE (.int 100))
def c__law_drawing_1 : DE := andE (ninE (rdE 7) (rdE 3)) (notE (rdE 2))
def e__law_drawing_2 : DE := rdE 7
def b__law_drawing_1 : DS := seqS (asgF 8 (callE (F__law_pick) (asL [rdE 0, addE (lenE (rdE 6)) (cE (.int 1))]))) (seqS (asgF 9 (addE (rdE 8) (callE (F__law_pick) (asL [rdE 0, addE (subE (lenE (rdE 6)) (rdE 8)) (cE (.int 1))])))) (asgF 6 (addE (addE (slE (rdE 6) none (some (rdE 8))) (tupE [tupE [rdE 7, slE (rdE 6) (some (rdE 8)) (some (rdE 9))]])) (slE (rdE 6) (some (rdE 9)) none))))
def g__law_drawing : DS := seqS (asgF 3 (slE (callE (F__law_three) (asL [rdE 0])) none (some (callE (F__law_pick) (asL [rdE 0, cE (.int 4)]))))) (seqS (asgF 4 (lcE (rng1 (callE (F__law_pick) (asL [rdE 0, addE (rdE 1) (cE (.int 1))]))) [10] (tgN 10) none (e__law_drawing_1))) (seqS (asgF 5 (lcE (itE (cE (.str ("abc" : Str)))) [7] (tgN 7) (some (c__law_drawing_1)) (e__law_drawing_2))) (seqS (asgF 5 (slE (rdE 5) none (some (callE (F__law_pick) (asL [rdE 0, cE (.int 3)]))))) (seqS (asgF 6 (tupOfE (callE (F__law_mixed) (asL [rdE 0, addE (rdE 3) (rdE 4)])))) (seqS (forS (itE (rdE 5)) (tgN 7) (b__law_drawing_1)) (retS (rdE 6)))))))
def F__law_drawing : DF := fnD 11 g__law_drawing
def g__law_written : DS := seqS (asgF 0 (lstE [tupE [tupE [], cE (.bool true), cE (.bool true), cE (.bool false)], tupE [tupE [cE (.str ("a" : Str)), cE (.int 0), cE (.int 99)], cE (.bool true), cE (.bool true), cE (.bool false)], tupE [tupE [cE (.int 0), cE (.int 0)], cE (.bool false), cE (.bool false), cE (.bool false)]])) (seqS (asgF 0 (addE (rdE 0) (lstE [tupE [tupE [cE (.int 100)], cE (.bool false), cE (.bool false), cE (.bool false)], tupE [tupE [cE (.bool true)], cE (.bool false), cE (.bool false), cE (.bool false)], tupE [tupE [cE (.str ("d" : Str))], cE (.bool false), cE (.bool false), cE (.bool false)]]))) (seqS (asgF 0 (addE (rdE 0) (lstE [tupE [tupE [tupE [cE (.str ("a" : Str)), tupE []]], cE (.bool true), cE (.bool false), cE (.bool false)], tupE [tupE [tupE [cE (.str ("a" : Str)), tupE [tupE [cE (.str ("b" : Str)), tupE [tupE [cE (.str ("c" : Str)), tupE [cE (.int 1)]]]]]]], cE (.bool true), cE (.bool false), cE (.bool false)]]))) (seqS (asgF 0 (addE (rdE 0) (lstE [tupE [tupE [tupE [cE (.str ("a" : Str)), tupE [cE (.str ("a" : Str))]]], cE (.bool false), cE (.bool false), cE (.bool false)], tupE [tupE [tupE [cE (.str ("a" : Str)), tupE []], cE (.str ("a" : Str))], cE (.bool false), cE (.bool false), cE (.bool false)]]))) (seqS (asgF 0 (addE (rdE 0) (lstE [tupE [tupE [tupE [cE (.str ("a" : Str)), lstE [cE (.int 1)]]], cE (.bool false), cE (.bool false), cE (.bool false)], tupE [tupE [tupE [cE (.str ("a" : Str)), tupE [cE (.int 1)], cE (.int 2)]], cE (.bool false), cE (.bool false), cE (.bool false)]]))) (seqS (asgF 0 (addE (rdE 0) (lstE [tupE [tupRgE (cE (.int 40)), cE (.bool true), cE (.bool true), cE (.bool false)], tupE [tupRgE (cE (.int 41)), cE (.bool false), cE (.bool false), cE (.bool false)]]))) (seqS (asgF 0 (addE (rdE 0) (lstE [tupE [tupE [tupE [cE (.str ("a" : Str)), tupRgE (cE (.int 40))], cE (.int 40)], cE (.bool false), cE (.bool false), cE (.bool false)], tupE [lstE [cE (.int 0)], cE (.bool false), cE (.bool false), cE (.bool false)]]))) (seqS (asgF 0 (addE (rdE 0) (lstE [tupE [tupE [cE (.str ("front" : Str)), cE (.str ("a" : Str))], cE (.bool false), cE (.bool false), cE (.bool true)], tupE [tupE [cE (.str ("up" : Str)), cE (.str ("a" : Str)), cE (.str ("b" : Str))], cE (.bool false), cE (.bool false), cE (.bool false)]]))) (seqS (asgF 0 (addE (rdE 0) (lstE [tupE [tupE [cE (.str ("above" : Str)), cE (.str ("a" : Str)), cE (.str ("b" : Str))], cE (.bool false), cE (.bool false), cE (.bool true)], tupE [tupE [cE (.str ("below" : Str)), cE (.str ("a" : Str))], cE (.bool false), cE (.bool false), cE (.bool false)]]))) (seqS (asgF 0 (addE (rdE 0) (lstE [tupE [tupE [cE (.str ("group" : Str)), cE (.str ("a" : Str)), cE (.str ("b" : Str)), cE (.str ("c" : Str))], cE (.bool false), cE (.bool false), cE (.bool true)], tupE [tupE [cE (.str ("group" : Str)), cE (.str ("a" : Str)), cE (.str ("b" : Str)), cE (.str ("a" : Str))], cE (.bool false), cE (.bool false), cE (.bool false)]]))) (seqS (asgF 0 (addE (rdE 0) (lstE [tupE [tupE [cE (.str ("above" : Str)), cE (.str ("b" : Str)), cE (.str ("b" : Str))], cE (.bool false), cE (.bool false), cE (.bool false)], tupE [tupE [cE (.str ("ungroup" : Str)), cE (.str ("c" : Str))], cE (.bool false), cE (.bool false), cE (.bool true)]]))) (retS (addE (rdE 0) (lstE [tupE [tupE [cE (.str ("group" : Str)), cE (.str ("a" : Str)), cE (.str ("b" : Str))], cE (.bool false), cE (.bool false), cE (.bool false)], tupE [lstE [cE (.str ("up" : Str)), cE (.str ("a" : Str))], cE (.bool false), cE (.bool false), cE (.bool false)]])))))))))))))
def F__law_written : DF := fnD 1 g__law_written
def b_law_1 : DS := seqS (ifS (orE (notE (callE (F__law_is_bool) (asL [callE (F_is_drawing) (asL [rdE 1]), rdE 2]))) (notE (callE (F__law_is_bool) (asL [callE (F_is_plain) (asL [rdE 1]), rdE 3])))) (retS (cE (.bool false))) (nopS)) (ifS (orE (notE (callE (F__law_is_bool) (asL [callE (F_is_command) (asL [rdE 1]), rdE 4]))) (notE (callE (F__law_is_bool) (asL [callE (F_is_script) (asL [tupE [rdE 1]]), rdE 4])))) (retS (cE (.bool false))) (nopS))
def b_law_2 : DS := seqS (asgF 11 (callE (F__law_variant 6) (asL [rdE 6, ifE (ltE (rdE 10) (cE (.int 9))) (rdE 7) (rdE 8), cE (.int 4)]))) (seqS (appS 9 (rdE 11)) (ifS (andE (isiE "tuple" (rdE 11)) (eqE (callE (F__law_pick) (asL [rdE 6, cE (.int 3)])) (cE (.int 0)))) (appS 9 (callE (F__law_variant 6) (asL [rdE 6, rdE 11, cE (.int 4)]))) (nopS)))
def b_law_3 : DS := seqS (asgF 2 (callE (F__law_good_drawing) (asL [rdE 1]))) (seqS (asgF 3 (andE (rdE 2) (andE (eqE (lenE (callE (F__law_ids 40) (asL [rdE 1]))) (lenE (rdE 1))) (eqE (lenE (callE (F__law_things 40) (asL [rdE 1]))) (lenE (rdE 1)))))) (seqS (ifS (orE (notE (callE (F__law_is_bool) (asL [callE (F_is_drawing) (asL [rdE 1]), rdE 2]))) (notE (callE (F__law_is_bool) (asL [callE (F_is_plain) (asL [rdE 1]), rdE 3])))) (retS (cE (.bool false))) (nopS)) (seqS (ifS (notE (callE (F__law_is_bool) (asL [callE (F_is_command) (asL [rdE 1]), callE (F__law_good_command) (asL [rdE 1])]))) (retS (cE (.bool false))) (nopS)) (ifS (notE (callE (F__law_is_bool) (asL [callE (F_is_script) (asL [rdE 1]), callE (F__law_good_script) (asL [rdE 1])]))) (retS (cE (.bool false))) (nopS)))))
def b_law_4 : DS := seqS (asgF 6 (refE (callE (F__law_source) (asL [rdE 0, rdE 5])))) (seqS (parO 7 8 (callE (F__law_drawing) (asL [rdE 6, cE (.int 12), cE (.bool false)])) (callE (F__law_script) (asL [rdE 6, cE (.int 4)]))) (seqS (asgO 9 (addE (lstE [rdE 7, listOfE (rdE 7), rdE 8, listOfE (rdE 8), addE (rdE 7) (rdE 7), cE .none, tupE [], cE (.str ("a" : Str))]) (listOfE (rdE 8)))) (seqS (appS 9 (callE (F__law_any_value 6) (asL [rdE 6, cE (.int 3)]))) (seqS (forS (rng1 (cE (.int 16))) (tgN 10) (b_law_2)) (frzS 9 (forS (itE (rdE 9)) (tgN 1) (b_law_3)))))))
def g_law : DS := seqS (forS (itE (call0E (F__law_written))) (tgT [1, 2, 3, 4]) (b_law_1)) (seqS (forS (rng1 (maxE (cE (.int 6)) (minE (cE (.int 20)) (lenE (rdE 0))))) (tgN 5) (b_law_4)) (retS (andE (notE (callE (F_is_script) (asL [mulE (tupE [tupE [cE (.str ("up" : Str)), cE (.str ("a" : Str))]]) (cE (.int 5))]))) (callE (F_is_script) (asL [mulE (tupE [tupE [cE (.str ("up" : Str)), cE (.str ("a" : Str))]]) (cE (.int 4))])))))
def F_law : DF := fnD 12 g_law
def g_need_script : DS := ifS (notE (callE (F_is_right_script) (asL [rdE 0]))) (raiseS ("InvalidScript" : Str)) (nopS)
def F_need_script : DF := fnD 1 g_need_script
def g_without : DS := retS (addE (slE (rdE 0) none (some (rdE 1))) (slE (rdE 0) (some (addE (rdE 1) (cE (.int 1)))) none))
def F_without : DF := fnD 2 g_without
def g_need_index : DS := ifS (orE (notE (isiOE "int" ("Moves" : Str) (rdE 1))) (orE (isiOE "bool" ("Moves" : Str) (rdE 1)) (notE (chE leG ltG (cE (.int 0)) (rdE 1) (lenE (rdE 0)))))) (raiseS ("InvalidIndex" : Str)) (nopS)
def F_need_index : DF := fnD 2 g_need_index
def g_Moves___init__ : DS := seqS (exprS (callE (F_need_script) (asL [rdE 1]))) (fldS ("Moves" : Str) ("all" : Str) (rdE 0) (rdE 1))
def F_Moves___init__ : DF := starF 1 (fnD 2 g_Moves___init__)
def g_Moves_joined : DS := seqS (ifS (notE (isiCE ("Moves" : Str) (rdE 1))) (raiseS ("InvalidScript" : Str)) (nopS)) (seqS (ifS (gtE (addE (lenE (fldE ("Moves" : Str) ("all" : Str) (rdE 0))) (lenE (fldE ("Moves" : Str) ("all" : Str) (rdE 1)))) (cE (.int 4))) (raiseFS ("TooMany" : Str) ("limit" : Str) 10 (cE (.int 4))) (nopS)) (retS (addE (fldE ("Moves" : Str) ("all" : Str) (rdE 0)) (fldE ("Moves" : Str) ("all" : Str) (rdE 1)))))
def F_Moves_joined : DF := fnD 2 g_Moves_joined
def g_Moves___getitem__ : DS := seqS (exprS (callE (F_need_index) (asL [fldE ("Moves" : Str) ("all" : Str) (rdE 0), rdE 1]))) (retS (ixE (fldE ("Moves" : Str) ("all" : Str) (rdE 0)) (rdE 1)))
def F_Moves___getitem__ : DF := fnD 2 g_Moves___getitem__
def g_Moves___len__ : DS := retS (lenE (fldE ("Moves" : Str) ("all" : Str) (rdE 0)))
def F_Moves___len__ : DF := fnD 1 g_Moves___len__
def g_Moves___add__ : DS := seqS (asgF 2 (methE ("Moves" : Str) ("joined" : Str) F_Moves_joined (rdE 0) (asL [rdE 1]))) (retS (makeStE ("Moves" : Str) F_Moves___init__ (rdE 2)))
def F_Moves___add__ : DF := fnD 3 g_Moves___add__
def b__law_made_1 : DS := asgF 1 (ownE ("Moves" : Str) F_Moves___add__ (rdE 1) (makeE ("Moves" : Str) F_Moves___init__ (asL [rdE 2])))
def g__law_made : DS := seqS (asgF 1 (makeE ("Moves" : Str) F_Moves___init__ (asL []))) (seqS (forS (itE (rdE 0)) (tgN 2) (b__law_made_1)) (retS (rdE 1)))
def F__law_made : DF := fnD 3 g__law_made
def g_Moves___sub__ : DS := seqS (exprS (callE (F_need_index) (asL [fldE ("Moves" : Str) ("all" : Str) (rdE 0), rdE 1]))) (seqS (asgF 2 (callE (F_without) (asL [fldE ("Moves" : Str) ("all" : Str) (rdE 0), rdE 1]))) (retS (makeStE ("Moves" : Str) F_Moves___init__ (rdE 2))))
def F_Moves___sub__ : DF := fnD 3 g_Moves___sub__
def g_Moves___iadd__ : DS := seqS (fldS ("Moves" : Str) ("all" : Str) (rdE 0) (methE ("Moves" : Str) ("joined" : Str) F_Moves_joined (rdE 0) (asL [rdE 1]))) (retS (rdE 0))
def F_Moves___iadd__ : DF := fnD 2 g_Moves___iadd__
def g__law_outcome_k42 : DS := tryX [("InvalidIndex" : Str), ("InvalidScript" : Str), ("TooMany" : Str)] (seqS (ifS (eqE (rdE 0) (cE (.int 0))) (retS (fldE ("Moves" : Str) ("all" : Str) (ownE ("Moves" : Str) F_Moves___add__ (rdE 1) (rdE 2)))) (nopS)) (seqS (ifS (eqE (rdE 0) (cE (.int 1))) (retS (fldE ("Moves" : Str) ("all" : Str) (ownE ("Moves" : Str) F_Moves___sub__ (rdE 1) (rdE 2)))) (nopS)) (seqS (ownS 1 ("Moves" : Str) F_Moves___iadd__ (rdE 2)) (retS (fldE ("Moves" : Str) ("all" : Str) (rdE 1)))))) [(("InvalidScript" : Str), hUn (retS (cE (.str ("script!" : Str))))), (("InvalidIndex" : Str), hUn (retS (cE (.str ("index!" : Str))))), (("TooMany" : Str), hRet ("TooMany" : Str) ("limit" : Str) 3 (gTxt ("many" : Str)))]
def F__law_outcome_k42 : DF := fnD 4 g__law_outcome_k42
def b_law_k42_1 : DS := ifS (neE (callE (F__law_outcome_k42) (asL [cE (.int 1), rdE 5, rdE 8])) (addE (slE (rdE 3) none (some (rdE 8))) (slE (rdE 3) (some (addE (rdE 8) (cE (.int 1)))) none))) (retS (cE (.bool false))) (nopS)
def b_law_k42_2 : DS := ifS (orE (neE (callE (F__law_outcome_k42) (asL [cE (.int 0), rdE 5, rdE 9])) (cE (.str ("script!" : Str)))) (neE (callE (F__law_outcome_k42) (asL [cE (.int 2), rdE 5, rdE 9])) (cE (.str ("script!" : Str))))) (retS (cE (.bool false))) (nopS)
def b_law_k42_3 : DS := ifS (neE (callE (F__law_outcome_k42) (asL [cE (.int 1), rdE 5, rdE 9])) (cE (.str ("index!" : Str)))) (retS (cE (.bool false))) (nopS)
def b_law_k42_4 : DS := seqS (asgF 2 (refE (callE (F__law_source) (asL [rdE 0, rdE 1])))) (seqS (parO 3 4 (callE (F__law_script) (asL [rdE 2, cE (.int 4)])) (callE (F__law_script) (asL [rdE 2, cE (.int 3)]))) (seqS (parO 5 6 (callE (F__law_made) (asL [rdE 3])) (callE (F__law_made) (asL [rdE 4]))) (seqS (asgF 7 (ifE (ltE (addE (lenE (rdE 3)) (lenE (rdE 4))) (cE (.int 5))) (addE (rdE 3) (rdE 4)) (cE (.str ("many4" : Str))))) (seqS (ifS (orE (neE (callE (F__law_outcome_k42) (asL [cE (.int 0), rdE 5, rdE 6])) (rdE 7)) (orE (neE (fldE ("Moves" : Str) ("all" : Str) (rdE 5)) (rdE 3)) (neE (fldE ("Moves" : Str) ("all" : Str) (rdE 6)) (rdE 4)))) (retS (cE (.bool false))) (nopS)) (seqS (forS (rng1 (lenE (rdE 3))) (tgN 8) (b_law_k42_1)) (seqS (forLE [cE .none, rdE 4, cE (.int 2), cE (.str ("a" : Str)), lstOE [rdE 6]] (tgN 9) (b_law_k42_2)) (seqS (forLE [negE (cE (.int 1)), lenE (rdE 3), cE .none, cE (.bool true), cE (.str ("1" : Str)), rdE 6] (tgN 9) (b_law_k42_3)) (seqS (asgF 10 (rdE 5)) (ifS (orE (neE (callE (F__law_outcome_k42) (asL [cE (.int 2), rdE 5, rdE 6])) (rdE 7)) (neE (fldE ("Moves" : Str) ("all" : Str) (rdE 10)) (ifE (eqE (rdE 7) (cE (.str ("many4" : Str)))) (rdE 3) (rdE 7)))) (retS (cE (.bool false))) (nopS))))))))))
def g_law_k42 : DS := seqS (forS (rng1 (maxE (cE (.int 5)) (minE (cE (.int 16)) (lenE (rdE 0))))) (tgN 1) (b_law_k42_4)) (seqS (asgF 11 (ownE ("Moves" : Str) F_Moves___add__ (makeE ("Moves" : Str) F_Moves___init__ (asL [tupE [cE (.str ("up" : Str)), cE (.str ("a" : Str))], tupE [cE (.str ("group" : Str)), cE (.str ("a" : Str)), cE (.str ("b" : Str)), cE (.str ("c" : Str))]])) (makeE ("Moves" : Str) F_Moves___init__ (asL [tupE [cE (.str ("back" : Str)), cE (.str ("c" : Str))], tupE [cE (.str ("ungroup" : Str)), cE (.str ("c" : Str))]])))) (retS (andE (eqE (lenOwnE ("Moves" : Str) F_Moves___len__ (rdE 11)) (cE (.int 4))) (andE (eqE (ixOwnE ("Moves" : Str) F_Moves___getitem__ (rdE 11) (cE (.int 2))) (tupE [cE (.str ("back" : Str)), cE (.str ("c" : Str))])) (eqE (fldE ("Moves" : Str) ("all" : Str) (ownE ("Moves" : Str) F_Moves___sub__ (rdE 11) (cE (.int 0)))) (slE (fldE ("Moves" : Str) ("all" : Str) (rdE 11)) (some (cE (.int 1))) none))))))
def F_law_k42 : DF := fnD 12 g_law_k42
end
end U

set_option Elab.async false
set_option linter.all false
set_option maxRecDepth 100000
set_option maxHeartbeats 4000000
/-! Q0: what a statement comes to, said by a predicate. -/
namespace DL
open PySem PySem.Spec PyProof.Rows L2

/-- a statement runs through, and this holds then -/
def RS.isNext (P : Env → Store → Prop) : RS → Prop
  | .next e s => P e s
  | _ => False
@[simp] theorem isNext_next {P : Env → Store → Prop} {e : Env} {s : Store} : (RS.next e s).isNext P = P e s := rfl
theorem RS.isNext.elim {P : Env → Store → Prop} {r : RS} (h : r.isNext P) : ∃ e s, r = .next e s ∧ P e s := by
  cases r with
  | next e s => exact ⟨e, s, rfl, h⟩
  | _ => exact False.elim h
theorem isNext_mono {P Q : Env → Store → Prop} {r : RS} (h : r.isNext P) (m : ∀ e s, P e s → Q e s) : r.isNext Q := by
  obtain ⟨e, s, rfl, p⟩ := h.elim
  exact m e s p
theorem isNext_bind {P Q : Env → Store → Prop} {r : RS} {k : Env → Store → RS} (h : r.isNext P) (m : ∀ e s, P e s → (k e s).isNext Q) : (r.bind k).isNext Q := by
  obtain ⟨e, s, rfl, p⟩ := h.elim
  exact m e s p
theorem isNext_seq {P Q : Env → Store → Prop} {g1 g2 : DS} {env : Env} {S : Store} (h : (g1 env S).isNext P) (m : ∀ e s, P e s → (g2 e s).isNext Q) : (seqS g1 g2 env S).isNext Q := isNext_bind h m
theorem forD_next {t : DG} {g : DS} (I : Env → Store → Prop) : ∀ (xs : List PyData) (env : Env) (S : Store), I env S → (∀ x, x ∈ xs → ∀ env S, I env S → ∃ env1, t (.d x) env = some env1 ∧ (g env1 S).isNext I) → (forD t g xs env S).isNext I
  | [], env, S, h, _ => h
  | x :: xs, env, S, h, hs => by
    obtain ⟨env1, e1, q⟩ := hs x List.mem_cons_self env S h
    obtain ⟨e, s, e2, p⟩ := q.elim
    unfold forD
    simp only [e1, e2]
    exact forD_next I xs e s p fun y hy => hs y (List.mem_cons_of_mem _ hy)
/-- .. what holds goes on with the list -/
theorem forD_nextL {t : DG} {g : DS} (I : List PyData → Env → Store → Prop) : ∀ (xs : List PyData) (env : Env) (S : Store), I xs env S → (∀ x ys env S, I (x :: ys) env S → ∃ env1, t (.d x) env = some env1 ∧ (g env1 S).isNext (I ys)) → (forD t g xs env S).isNext (I [])
  | [], env, S, h, _ => h
  | x :: xs, env, S, h, hs => by
    obtain ⟨env1, e1, q⟩ := hs x xs env S h
    obtain ⟨e, s, e2, p⟩ := q.elim
    unfold forD
    simp only [e1, e2]
    exact forD_nextL I xs e s p hs
/-- a def's end -/
theorem endF_true {r : RS} {P : RE → Prop} (h : ∃ S', r = .ret (.d (.bool true)) S') : ∃ S', endF r = .ok (.d (.bool true)) S' := by
  obtain ⟨S', rfl⟩ := h
  exact ⟨S', rfl⟩
/-- slots that are of no more use -/
def Slots (n : Nat) (known : List (Nat × EV)) (e : Env) : Prop := e.length = n ∧ ∀ p, p ∈ known → e[p.1]? = some (some p.2)
theorem len_cons {α : Type} {n : Nat} {xs : List α} (h : xs.length = n + 1) : ∃ a ys, xs = a :: ys ∧ ys.length = n := by
  cases xs with
  | nil => cases h
  | cons a ys => exact ⟨a, ys, rfl, by simpa using h⟩
theorem len_nil {α : Type} {xs : List α} (h : xs.length = 0) : xs = [] := List.eq_nil_of_length_eq_zero h
/-- a for whose slots are told by what it makes and by what is of no use -/
theorem forD_fold {α β : Type} {t : DG} {g : DS} (mk : α → β → Env) (step : α → PyData → α) (S : Store) (P : α → List PyData → Prop)
    (h : ∀ a b x xs, P a (x :: xs) → ∃ env1 b', t (.d x) (mk a b) = some env1 ∧ g env1 S = .next (mk (step a x) b') S ∧ P (step a x) xs) : ∀ (xs : List PyData) (a : α) (b : β), P a xs → ∃ b', forD t g xs (mk a b) S = .next (mk (xs.foldl step a) b') S ∧ P (xs.foldl step a) []
  | [], a, b, p => ⟨b, rfl, p⟩
  | x :: xs, a, b, p => by
    obtain ⟨env1, b1, e1, e2, p1⟩ := h a b x xs p
    obtain ⟨b', e3, p3⟩ := forD_fold mk step S P h xs (step a x) b1 p1
    refine ⟨b', ?_, p3⟩
    unfold forD
    simp only [e1, e2]
    exact e3
theorem addG_listB {xs ys : List PyData} (h : xs.length + ys.length ≤ 10000000) : addG (.list xs) (.list ys) = some (.own (xs ++ ys)) := by
  unfold addG
  simp only
  rw [if_pos (by unfold LIM; omega)]
end DL

set_option Elab.async false
set_option linter.all false
set_option maxRecDepth 100000
set_option maxHeartbeats 4000000
/-! P1: what the recognizers of drawings reckon. -/
namespace P
open PySem PySem.Spec PyProof.Rows L2 DL U

abbrev dB (b : Bool) : EV := .d (.bool b)
def isName : PyData → Bool
  | .str s => ("a" : Str) == s || (("b" : Str) == s || ("c" : Str) == s)
  | _ => false
theorem name_eq (v : PyData) (S : Store) : F_is_name [.d v] S = .ok (dB (isName v)) S := by
  show endF (g_is_name [some (.d v)] S) = _
  unfold g_is_name
  cases v <;> simp [tyD, inG, flatD, isName, PyData.eqv]
def isThing : PyData → Bool
  | .int i => decide (0 ≤ i) && decide (i ≤ 99)
  | .str s => isName (.str s)
  | _ => false
theorem thing_eq (v : PyData) (S : Store) : F_is_thing [.d v] S = .ok (dB (isThing v)) S := by
  show endF (g_is_thing [some (.d v)] S) = _
  unfold g_is_thing
  cases v <;> simp [tyD, name_eq, isThing, isName]
  rename_i i
  by_cases h : 0 ≤ i <;> simp [h]
def isTup : PyData → Bool
  | .tuple _ => true
  | _ => false
theorem isTup_ty (v : PyData) : (tyD v == "tuple" || (tyD v == "bool" && "tuple" == "int")) = isTup v := by
  cases v <;> simp [tyD, isTup]
def isGroup : PyData → Bool
  | .tuple [x, y] => isName x && isTup y
  | _ => false
theorem group_eq (v : PyData) (S : Store) : F_is_group [.d v] S = .ok (dB (isGroup v)) S := by
  show endF (g_is_group [some (.d v)] S) = _
  unfold g_is_group
  cases v with
  | tuple xs =>
    match xs with
    | [] => simp [tyD, isGroup]
    | [x] => simp [tyD, isGroup]
    | [x, y] =>
      simp [tyD, isGroup, name_eq]
      cases h : isName x <;> simp [h]
      cases y <;> simp [tyD, isTup]
    | x :: y :: z :: r =>
      have h : ((r.length : Int) + 1 + 1 + 1 == 2) = false := by
        rw [beq_eq_false_iff_ne]; omega
      simp [tyD, isGroup, h]
  | _ => simp [tyD, isGroup]

/-! ### items of any depth -/
mutual
def wfI : PyData → Bool
  | .tuple [x, .tuple ys] => isName x && wfAll ys
  | x => isThing x
def wfAll : List PyData → Bool
  | [] => true
  | x :: xs => wfI x && wfAll xs
end
mutual
def idsI : PyData → List PyData
  | .tuple [x, .tuple ys] => x :: idsAll ys
  | x => [x]
def idsAll : List PyData → List PyData
  | [] => []
  | x :: xs => idsI x ++ idsAll xs
end
mutual
def thI : PyData → List PyData
  | .tuple [_, .tuple ys] => thAll ys
  | x => [x]
def thAll : List PyData → List PyData
  | [] => []
  | x :: xs => thI x ++ thAll xs
end
mutual
def grI : PyData → List PyData
  | .tuple [x, .tuple ys] => x :: grAll ys
  | _ => []
def grAll : List PyData → List PyData
  | [] => []
  | x :: xs => grI x ++ grAll xs
end
mutual
def dpI : PyData → Nat
  | .tuple [_, .tuple ys] => 1 + dpAll ys
  | _ => 0
def dpAll : List PyData → Nat
  | [] => 0
  | x :: xs => max (dpI x) (dpAll xs)
end
mutual
def cnI : PyData → Nat
  | .tuple xs => cnAll xs
  | .list xs => cnAll xs
  | _ => 0
def cnAll : List PyData → Nat
  | [] => 0
  | x :: xs => cnI x + 1 + cnAll xs
end
mutual
def idnI : PyData → List PyData
  | .tuple [x, .tuple ys] => if isName x = true then x :: idnAll ys else [.none]
  | x => if isThing x = true then [x] else [.none]
def idnAll : List PyData → List PyData
  | [] => []
  | x :: xs => idnI x ++ idnAll xs
end
/-- how an item is: a group, or no tuple of that form -/
theorem form (x : PyData) : (∃ n ys, x = .tuple [n, .tuple ys]) ∨ ((∀ n ys, x ≠ .tuple [n, .tuple ys]) ∧ wfI x = isThing x ∧ idsI x = [x] ∧ thI x = [x] ∧ grI x = [] ∧ dpI x = 0 ∧ idnI x = (if isThing x = true then [x] else [.none])) := by
  by_cases h : ∃ n ys, x = .tuple [n, .tuple ys]
  · exact .inl h
  · have h' : ∀ n ys, x ≠ .tuple [n, .tuple ys] := fun n ys e => h ⟨n, ys, e⟩
    refine .inr ⟨h', ?_, ?_, ?_, ?_, ?_, ?_⟩
    · unfold wfI; split
      · exact absurd rfl (h' _ _)
      · rfl
    · unfold idsI; split
      · exact absurd rfl (h' _ _)
      · rfl
    · unfold thI; split
      · exact absurd rfl (h' _ _)
      · rfl
    · unfold grI; split
      · exact absurd rfl (h' _ _)
      · rfl
    · unfold dpI; split
      · exact absurd rfl (h' _ _)
      · rfl
    · unfold idnI; split
      · exact absurd rfl (h' _ _)
      · rfl
@[simp] theorem wfI_g {n : PyData} {ys : List PyData} : wfI (.tuple [n, .tuple ys]) = (isName n && wfAll ys) := by rw [wfI]
@[simp] theorem idsI_g {n : PyData} {ys : List PyData} : idsI (.tuple [n, .tuple ys]) = n :: idsAll ys := by rw [idsI]
@[simp] theorem thI_g {n : PyData} {ys : List PyData} : thI (.tuple [n, .tuple ys]) = thAll ys := by rw [thI]
@[simp] theorem grI_g {n : PyData} {ys : List PyData} : grI (.tuple [n, .tuple ys]) = n :: grAll ys := by rw [grI]
@[simp] theorem dpI_g {n : PyData} {ys : List PyData} : dpI (.tuple [n, .tuple ys]) = 1 + dpAll ys := by rw [dpI]
@[simp] theorem idnI_g {n : PyData} {ys : List PyData} : idnI (.tuple [n, .tuple ys]) = if isName n = true then n :: idnAll ys else [.none] := by rw [idnI]
@[simp] theorem wfAll_nil : wfAll [] = true := by rw [wfAll]
@[simp] theorem wfAll_cons {x : PyData} {xs : List PyData} : wfAll (x :: xs) = (wfI x && wfAll xs) := by rw [wfAll]
@[simp] theorem idsAll_nil : idsAll [] = [] := by rw [idsAll]
@[simp] theorem idsAll_cons {x : PyData} {xs : List PyData} : idsAll (x :: xs) = idsI x ++ idsAll xs := by rw [idsAll]
@[simp] theorem thAll_nil : thAll [] = [] := by rw [thAll]
@[simp] theorem thAll_cons {x : PyData} {xs : List PyData} : thAll (x :: xs) = thI x ++ thAll xs := by rw [thAll]
@[simp] theorem grAll_nil : grAll [] = [] := by rw [grAll]
@[simp] theorem grAll_cons {x : PyData} {xs : List PyData} : grAll (x :: xs) = grI x ++ grAll xs := by rw [grAll]
@[simp] theorem dpAll_nil : dpAll [] = 0 := by rw [dpAll]
@[simp] theorem dpAll_cons {x : PyData} {xs : List PyData} : dpAll (x :: xs) = max (dpI x) (dpAll xs) := by rw [dpAll]
@[simp] theorem cnAll_nil : cnAll [] = 0 := by rw [cnAll]
@[simp] theorem cnAll_cons {x : PyData} {xs : List PyData} : cnAll (x :: xs) = cnI x + 1 + cnAll xs := by rw [cnAll]
@[simp] theorem cnI_tup {xs : List PyData} : cnI (.tuple xs) = cnAll xs := by rw [cnI]
@[simp] theorem cnI_lst {xs : List PyData} : cnI (.list xs) = cnAll xs := by rw [cnI]
@[simp] theorem idnAll_nil : idnAll [] = [] := by rw [idnAll]
@[simp] theorem idnAll_cons {x : PyData} {xs : List PyData} : idnAll (x :: xs) = idnI x ++ idnAll xs := by rw [idnAll]
theorem isThing_tup {xs : List PyData} : isThing (.tuple xs) = false := rfl
/-- a well-formed item: a group or a thing -/
theorem wf_form {x : PyData} (h : wfI x = true) : (∃ n ys, x = .tuple [n, .tuple ys] ∧ isName n = true ∧ wfAll ys = true) ∨ (isThing x = true ∧ isTup x = false ∧ idsI x = [x] ∧ thI x = [x] ∧ grI x = [] ∧ dpI x = 0 ∧ idnI x = [x]) := by
  rcases form x with ⟨n, ys, rfl⟩ | ⟨h', e1, e2, e3, e4, e5, e6⟩
  · rw [wfI_g, Bool.and_eq_true] at h
    exact .inl ⟨n, ys, rfl, h.1, h.2⟩
  · rw [e1] at h
    rw [if_pos h] at e6
    refine .inr ⟨h, ?_, e2, e3, e4, e5, e6⟩
    cases x <;> first | rfl | cases h

/-- how deep lists and tuples lie in a value, at most -/
theorem items_aux (S : Store) : ∀ (d : Nat) (k : Nat) (xs : List PyData) (F : DF), k ≤ d → (∀ ys (k' : Nat), k = k' + 1 → F [.d (.tuple ys), .d (.int (k' : Nat))] S = .ok (dB (wfAll ys && decide (dpAll ys ≤ k'))) S) → ∀ ys zs e, wfAll zs = true → dpAll zs ≤ k →
    ∃ e' : DL.Env, forD (tgN 2) (b_are_items_1 F) ys [some (.d (.tuple xs)), some (.d (.int (k : Nat))), e] S = (if wfAll ys && decide (dpAll ys ≤ k) then .next e' S else .ret (dB false) S) := by
  intro d k xs F hk hF ys zs e hz hd
  induction ys generalizing e with
  | nil => exact ⟨_, by simp [forD]; rfl⟩
  | cons y ys ih =>
    unfold forD
    simp only [tgN_ap]
    have hb : b_are_items_1 F ([some (.d (.tuple xs)), some (.d (.int (k : Nat))), e].set 2 (some (.d y))) S = if wfI y && decide (dpI y ≤ k) then .next [some (.d (.tuple xs)), some (.d (.int (k : Nat))), some (.d y)] S else .ret (dB false) S := by
      unfold b_are_items_1
      rcases form y with ⟨n, zs, rfl⟩ | ⟨h', e1, e2, e3, e4, e5, e6⟩
      · simp [thing_eq, group_eq, isThing, isGroup, isTup, tyD]
        cases hn : isName n with
        | false => simp
        | true =>
          cases k with
          | zero => simp; try (intro _; omega)
          | succ k' =>
            have h0 : ((k' : Int) + 1 == 0) = false := by rw [beq_eq_false_iff_ne]; omega
            have := hF zs k' rfl
            simp [h0, this]
            cases hw : wfAll zs <;> simp
            by_cases hq : dpAll zs ≤ k'
            · simp [hq, show 1 + dpAll zs ≤ k' + 1 by omega]
            · simp [hq, show ¬ (1 + dpAll zs ≤ k' + 1) by omega]
      · simp [thing_eq, group_eq, e1, e5]
        cases ht : isThing y with
        | true =>
          have : isTup y = false := by cases y <;> first | rfl | cases ht
          have h2 : tyD y ≠ "tuple" := by cases y <;> simp [tyD, isTup] at this ⊢
          have h3 : (tyD y == "tuple") = false := by rw [beq_eq_false_iff_ne]; exact h2
          simp [h3]
        | false =>
          have : isGroup y = false := by
            unfold isGroup
            split
            · rename_i n z
              cases z <;> simp [isTup]
              exact absurd rfl (h' _ _)
            · rfl
          simp [this]
    rw [hb]
    by_cases hy : (wfI y && decide (dpI y ≤ k)) = true
    · simp only [hy, if_true]
      obtain ⟨e', h⟩ := ih (some (.d y))
      refine ⟨e', h.trans ?_⟩
      simp only [Bool.and_eq_true, decide_eq_true_eq] at hy
      simp [hy.1, hy.2, Nat.max_le]
    · rw [if_neg hy]
      refine ⟨[], ?_⟩
      have : ¬ ((wfAll (y :: ys) && decide (dpAll (y :: ys) ≤ k)) = true) := by
        simp only [wfAll_cons, dpAll_cons, Bool.and_eq_true, decide_eq_true_eq, Nat.max_le] at hy ⊢
        exact fun z => hy ⟨z.1.1, z.2.1⟩
      simp only [if_neg this]
theorem items_eq (S : Store) : ∀ (d k : Nat) (ys : List PyData), k < d → F_are_items d [.d (.tuple ys), .d (.int (k : Nat))] S = .ok (dB (wfAll ys && decide (dpAll ys ≤ k))) S
  | 0, k, ys, h => by omega
  | d + 1, k, ys, h => by
    show endF (g_are_items (F_are_items d) [some (.d (.tuple ys)), some (.d (.int (k : Nat))), none] S) = _
    obtain ⟨e', h2⟩ := items_aux S d k ys (F_are_items d) (by omega) (fun zs k' e => items_eq S d k' zs (by omega)) ys [] none (by simp) (by simp)
    unfold g_are_items
    by_cases hw : wfAll ys = true <;> by_cases hd : dpAll ys ≤ k <;> simp [h2, hw, hd]
theorem items_no (S : Store) (d : Nat) (k : Nat) (v : PyData) (h : isTup v = false) : F_are_items (d + 1) [.d v, .d (.int (k : Nat))] S = .ok (dB false) S := by
  show endF (g_are_items (F_are_items d) [some (.d v), some (.d (.int (k : Nat))), none] S) = _
  unfold g_are_items
  cases v with
  | tuple xs => cases h
  | _ => simp

theorem things_aux (S : Store) (a : Option EV) (F : DF) : ∀ (ys : List PyData) (acc : List PyData) (e : Option EV), wfAll ys = true → (∀ n zs, .tuple [n, .tuple zs] ∈ ys → F [.d (.tuple zs)] S = .ok (.own (thAll zs)) S) → acc.length + (thAll ys).length ≤ 100000 →
    ∃ e', forD (tgN 2) (b_all_things_1 F) ys [a, some (.own acc), e] S = .next [a, some (.own (acc ++ thAll ys)), e'] S
  | [], acc, e, _, _, _ => ⟨e, by simp [forD]⟩
  | y :: ys, acc, e, w, hF, hl => by
    rw [wfAll_cons, Bool.and_eq_true] at w
    rw [thAll_cons, List.length_append] at hl
    unfold forD
    have hb : b_all_things_1 F ([a, some (.own acc), e].set 2 (some (.d y))) S = .next [a, some (.own (acc ++ thI y)), some (.d y)] S := by
      unfold b_all_things_1
      rcases wf_form w.1 with ⟨n, zs, rfl, _, _⟩ | ⟨h1, h2, _, h3, _⟩
      · have := hF n zs (by simp)
        rw [thI_g] at hl
        simp [this, addG_list (show acc.length + (thAll zs).length ≤ 100000 by omega)]
      · rw [h3] at hl ⊢
        have h4 : (tyD y == "tuple") = false := by cases y <;> first | rfl | cases h2
        have h5 : ¬ (tyD y = "tuple") := fun z => by rw [z] at h4; simp at h4
        simp [h4, h5, addG_list (show acc.length + [y].length ≤ 100000 by simp at hl ⊢; omega)]
    obtain ⟨e', h⟩ := things_aux S a F ys (acc ++ thI y) (some (.d y)) w.2 (fun n zs hm => hF n zs (List.mem_cons_of_mem _ hm)) (by rw [List.length_append]; omega)
    refine ⟨e', ?_⟩
    simp only [tgN_ap, hb]
    rw [h, thAll_cons, List.append_assoc]
theorem wf_mem {ys : List PyData} (h : wfAll ys = true) {y : PyData} (hy : y ∈ ys) : wfI y = true ∧ dpI y ≤ dpAll ys ∧ (thI y).length ≤ (thAll ys).length ∧ (grI y).length ≤ (grAll ys).length ∧ (idsI y).length ≤ (idsAll ys).length := by
  induction ys with
  | nil => cases hy
  | cons x ys ih =>
    rw [wfAll_cons, Bool.and_eq_true] at h
    simp only [dpAll_cons, thAll_cons, grAll_cons, idsAll_cons, List.length_append]
    rcases List.mem_cons.mp hy with e | e
    · subst e
      exact ⟨h.1, Nat.le_max_left _ _, by omega, by omega, by omega⟩
    · obtain ⟨a, b, c, d, f⟩ := ih h.2 e
      exact ⟨a, Nat.le_trans b (Nat.le_max_right _ _), by omega, by omega, by omega⟩
theorem things_eq (S : Store) : ∀ (d : Nat) (ys : List PyData), wfAll ys = true → dpAll ys < d → (thAll ys).length ≤ 100000 → F_all_things d [.d (.tuple ys)] S = .ok (.own (thAll ys)) S
  | 0, ys, _, h, _ => by omega
  | d + 1, ys, w, h, hl => by
    show endF (g_all_things (F_all_things d) [some (.d (.tuple ys)), none, none] S) = _
    obtain ⟨e', h2⟩ := things_aux S (some (.d (.tuple ys))) (F_all_things d) ys [] none w (fun n zs hm => by
      obtain ⟨h1, h2, h3, _⟩ := wf_mem w hm
      rw [wfI_g, Bool.and_eq_true] at h1
      rw [dpI_g] at h2
      rw [thI_g] at h3
      exact things_eq S d zs h1.2 (by omega) (by omega)) (by simpa using hl)
    unfold g_all_things
    simp [h2]
theorem groups_aux (S : Store) (a : Option EV) (F : DF) : ∀ (ys : List PyData) (acc : List PyData) (e : Option EV), wfAll ys = true → (∀ n zs, .tuple [n, .tuple zs] ∈ ys → F [.d (.tuple zs)] S = .ok (.d (.list (grAll zs))) S) → acc.length + (grAll ys).length ≤ 100000 →
    ∃ e', forD (tgN 2) (b_group_names_1 F) ys [a, some (.d (.list acc)), e] S = .next [a, some (.d (.list (acc ++ grAll ys))), e'] S
  | [], acc, e, _, _, _ => ⟨e, by simp [forD]⟩
  | y :: ys, acc, e, w, hF, hl => by
    rw [wfAll_cons, Bool.and_eq_true] at w
    rw [grAll_cons, List.length_append] at hl
    unfold forD
    have hb : b_group_names_1 F ([a, some (.d (.list acc)), e].set 2 (some (.d y))) S = .next [a, some (.d (.list (acc ++ grI y))), some (.d y)] S := by
      unfold b_group_names_1
      rcases wf_form w.1 with ⟨n, zs, rfl, _, _⟩ | ⟨h1, h2, _, _, h3, _⟩
      · have := hF n zs (by simp)
        rw [grI_g] at hl
        simp at hl
        simp [this, addG_list (show acc.length + [n].length ≤ 100000 by simp; omega), addG_list (show (acc ++ [n]).length + (grAll zs).length ≤ 100000 by simp; omega)]
      · rw [h3] at hl ⊢
        have h4 : (tyD y == "tuple") = false := by cases y <;> first | rfl | cases h2
        have h5 : ¬ (tyD y = "tuple") := fun z => by rw [z] at h4; simp at h4
        simp [h4, h5]
    obtain ⟨e', h⟩ := groups_aux S a F ys (acc ++ grI y) (some (.d y)) w.2 (fun n zs hm => hF n zs (List.mem_cons_of_mem _ hm)) (by rw [List.length_append]; omega)
    refine ⟨e', ?_⟩
    simp only [tgN_ap, hb]
    rw [h, grAll_cons, List.append_assoc]
theorem groups_eq (S : Store) : ∀ (d : Nat) (ys : List PyData), wfAll ys = true → dpAll ys < d → (grAll ys).length ≤ 100000 → F_group_names d [.d (.tuple ys)] S = .ok (.d (.list (grAll ys))) S
  | 0, ys, _, h, _ => by omega
  | d + 1, ys, w, h, hl => by
    show endF (g_group_names (F_group_names d) [some (.d (.tuple ys)), none, none] S) = _
    obtain ⟨e', h2⟩ := groups_aux S (some (.d (.tuple ys))) (F_group_names d) ys [] none w (fun n zs hm => by
      obtain ⟨h1, h2, _, h3, _⟩ := wf_mem w hm
      rw [wfI_g, Bool.and_eq_true] at h1
      rw [dpI_g] at h2
      rw [grI_g, List.length_cons] at h3
      exact groups_eq S d zs h1.2 (by omega) (by omega)) (by simpa using hl)
    unfold g_group_names
    simp [h2]
/-! ### sets of keys -/
theorem hasK_mem {κ : Type} [DecidableEq κ] (acc : List κ) (k : κ) : hasK acc k = true ↔ k ∈ acc := by
  unfold hasK
  rw [List.any_eq_true]
  exact ⟨fun ⟨x, h1, h2⟩ => by rw [← of_decide_eq_true h2]; exact h1, fun h => ⟨k, h, decide_eq_true rfl⟩⟩
theorem dd_go {κ : Type} [DecidableEq κ] : ∀ (ks acc : List κ), (ks.foldl dd1 acc).length ≤ acc.length + ks.length ∧ ((ks.foldl dd1 acc).length = acc.length + ks.length ↔ ks.Nodup ∧ ∀ k, k ∈ ks → k ∉ acc)
  | [], acc => ⟨by simp, by simp⟩
  | k :: ks, acc => by
    rw [List.foldl_cons, List.length_cons]
    by_cases h : hasK acc k = true
    · rw [show dd1 acc k = acc from if_pos h]
      obtain ⟨h1, h2⟩ := dd_go ks acc
      have hm := (hasK_mem acc k).mp h
      refine ⟨by omega, ⟨fun e => by omega, fun ⟨_, e⟩ => absurd hm (e k List.mem_cons_self)⟩⟩
    · rw [show dd1 acc k = acc ++ [k] from if_neg h]
      obtain ⟨h1, h2⟩ := dd_go ks (acc ++ [k])
      have hm : k ∉ acc := fun z => h ((hasK_mem acc k).mpr z)
      rw [List.length_append, List.length_singleton] at h1 h2
      refine ⟨by omega, ⟨fun e => ?_, fun ⟨nd, e⟩ => ?_⟩⟩
      · obtain ⟨q1, q2⟩ := h2.mp (by omega)
        refine ⟨List.nodup_cons.mpr ⟨fun z => q2 k z (by simp), q1⟩, fun x hx => ?_⟩
        rcases List.mem_cons.mp hx with z | z
        · rw [z]; exact hm
        · exact fun y => q2 x z (by simp [y])
      · obtain ⟨q1, q2⟩ := List.nodup_cons.mp nd
        have := h2.mpr ⟨q2, fun x hx hx2 => by
          rcases List.mem_append.mp hx2 with z | z
          · exact e x (List.mem_cons_of_mem _ hx) z
          · simp at z
            rw [z] at hx
            exact q1 hx⟩
        omega
theorem dd_len {κ : Type} [DecidableEq κ] (ks : List κ) : (dd ks).length ≤ ks.length ∧ ((dd ks).length = ks.length ↔ ks.Nodup) := by
  have := dd_go ks []
  simp at this
  exact this
/-- a key of a set -/
def isKey : PyData → Bool
  | .int _ => true
  | .str _ => true
  | _ => false
def kD : Key → PyData
  | .inl i => .int i
  | .inr s => .str s
theorem keys_of : ∀ (xs : List PyData), xs.all isKey = true → ∃ ks, keysD xs = some ks ∧ ks.length = xs.length ∧ (ks.Nodup ↔ xs.Nodup) ∧ ∀ k, k ∈ ks ↔ kD k ∈ xs
  | [], _ => ⟨[], rfl, rfl, by simp, by simp⟩
  | x :: xs, h => by
    simp only [List.all_cons, Bool.and_eq_true] at h
    obtain ⟨ks, e1, e2, e3, e4⟩ := keys_of xs h.2
    cases x with
    | int i =>
      refine ⟨.inl i :: ks, by simp [keysD, keyD, e1], by simp [e2], ?_, fun k => ?_⟩
      · rw [List.nodup_cons, List.nodup_cons, e3, e4]
        rfl
      · rw [List.mem_cons, List.mem_cons, e4]
        cases k <;> simp [kD]
    | str i =>
      refine ⟨.inr i :: ks, by simp [keysD, keyD, e1], by simp [e2], ?_, fun k => ?_⟩
      · rw [List.nodup_cons, List.nodup_cons, e3, e4]
        rfl
      · rw [List.mem_cons, List.mem_cons, e4]
        cases k <;> simp [kD]
    | _ => cases h.1
theorem set_len {xs : List PyData} (h : xs.all isKey = true) (hl : xs.length ≤ 4000) : ∃ n : Nat, lsG (.list xs) = some (.d (.int n)) ∧ lsG (.tuple xs) = some (.d (.int n)) ∧ n ≤ xs.length ∧ (n = xs.length ↔ xs.Nodup) := by
  obtain ⟨ks, e1, e2, e3, _⟩ := keys_of xs h
  obtain ⟨d1, d2⟩ := dd_len ks
  refine ⟨(dd ks).length, ?_, ?_, by omega, by rw [← e2, ← e3]; exact d2⟩
  · simp [lsG, e1, e2, hl]
  · simp [lsG, e1, e2, hl]
end P

set_option Elab.async false
set_option linter.all false
set_option maxRecDepth 100000
set_option maxHeartbeats 4000000
/-! P2: good drawings. -/
namespace P
open PySem PySem.Spec PyProof.Rows L2 DL U

theorem name_cases {x : PyData} (h : isName x = true) : x = .str "a" ∨ x = .str "b" ∨ x = .str "c" := by
  cases x with
  | str s =>
    simp only [isName, Bool.or_eq_true, beq_iff_eq] at h
    rcases h with h | h | h
    · exact .inl (by rw [← h])
    · exact .inr (.inl (by rw [← h]))
    · exact .inr (.inr (by rw [← h]))
  | _ => cases h
theorem thing_cases {x : PyData} (h : isThing x = true) : isName x = true ∨ ∃ i : Int, x = .int i ∧ 0 ≤ i ∧ i ≤ 99 := by
  cases x with
  | int i =>
    simp only [isThing, Bool.and_eq_true, decide_eq_true_eq] at h
    exact .inr ⟨i, rfl, h⟩
  | str s => exact .inl h
  | _ => cases h
theorem name_thing {x : PyData} (h : isName x = true) : isThing x = true := by
  cases x with
  | str s => exact h
  | _ => cases h
theorem thing_key {x : PyData} (h : isThing x = true) : isKey x = true := by
  cases x with
  | int i => rfl
  | str s => rfl
  | _ => cases h
/-- what stands in a law's list of ids -/
def isId : PyData → Bool
  | .none => true
  | x => isThing x
theorem name_lay {x : PyData} (h : isName x = true) : x.canLay0 = true ∧ x.depth ≤ 1 := by
  rcases name_cases h with rfl | rfl | rfl <;> exact ⟨by decide +kernel, by simp [PyData.depth]⟩
theorem id_lay {x : PyData} (h : isId x = true) : x.canLay0 = true ∧ x.depth ≤ 1 := by
  by_cases hn : isName x = true
  · exact name_lay hn
  · cases x with
    | none => exact ⟨by simp [PyData.canLay0], by simp [PyData.depth]⟩
    | int i => exact ⟨by simp [PyData.canLay0], by simp [PyData.depth]⟩
    | str s => exact absurd h hn
    | _ => cases h
theorem thing_id {x : PyData} (h : isThing x = true) : isId x = true := by
  cases x with
  | int i => exact h
  | str s => exact h
  | _ => cases h
theorem ids_lay : ∀ {xs : List PyData}, xs.all isId = true → PyData.canLayAll0 xs = true ∧ PyData.depthAll xs ≤ 1
  | [], _ => ⟨by simp [PyData.canLayAll0], by simp [PyData.depthAll]⟩
  | x :: xs, h => by
    simp only [List.all_cons, Bool.and_eq_true] at h
    obtain ⟨a, b⟩ := id_lay h.1
    obtain ⟨c, d⟩ := ids_lay h.2
    exact ⟨by simp [PyData.canLayAll0, a, c], by simp only [PyData.depthAll]; omega⟩
theorem ids_shaped {xs : List PyData} (h : xs.all isId = true) : SeqAt.shaped (.list xs) = true ∧ SeqAt.shaped (.tuple xs) = true := by
  obtain ⟨c, d⟩ := ids_lay h
  exact ⟨canLay_shaped (by simp [PyData.canLay0, c]) (by simp only [PyData.depth]; omega), canLay_shaped (by simp [PyData.canLay0, c]) (by simp only [PyData.depth]; omega)⟩
theorem id_shaped {x : PyData} (h : isId x = true) : SeqAt.shaped x = true := by
  obtain ⟨c, d⟩ := id_lay h
  exact canLay_shaped c (by omega)
theorem key_eqv {x y : PyData} (h : isKey x = true) (h2 : isKey y = true) : PyData.eqv x y = true ↔ x = y := by
  cases x with
  | int i => cases y with
    | int j => simp [PyData.eqv]
    | str j => simp [PyData.eqv]
    | _ => cases h2
  | str i => cases y with
    | int j => simp [PyData.eqv]
    | str j => simp [PyData.eqv]
    | _ => cases h2
  | _ => cases h
theorem any_eqv {x : PyData} (h : isKey x = true) {ys : List PyData} (hy : ys.all isKey = true) : (ys.any fun z => PyData.eqv z x) = true ↔ x ∈ ys := by
  rw [List.any_eq_true]
  constructor
  · rintro ⟨z, hz, e⟩
    rw [← (key_eqv (List.all_eq_true.mp hy z hz) h).mp e]
    exact hz
  · exact fun m => ⟨x, m, (key_eqv h h).mpr rfl⟩
theorem wf_parts : ∀ (n : Nat) {ys : List PyData}, cnAll ys ≤ n → wfAll ys = true → (thAll ys).all isThing = true ∧ (grAll ys).all isName = true ∧ (idsAll ys).all isThing = true ∧ (idsAll ys).Perm (grAll ys ++ thAll ys) ∧ dpAll ys ≤ (grAll ys).length ∧ (idsAll ys).length ≤ cnAll ys ∧ idnAll ys = idsAll ys
  | _, [], _, _ => by simp
  | 0, y :: ys, h, _ => by rw [cnAll_cons] at h; omega
  | n + 1, y :: ys, h, w => by
    rw [cnAll_cons] at h
    rw [wfAll_cons, Bool.and_eq_true] at w
    obtain ⟨a1, a2, a3, a4, a5, a6, a7⟩ := wf_parts n (ys := ys) (by omega) w.2
    have one : (thI y).all isThing = true ∧ (grI y).all isName = true ∧ (idsI y).all isThing = true ∧ (idsI y).Perm (grI y ++ thI y) ∧ dpI y ≤ (grI y).length ∧ (idsI y).length ≤ cnI y + 1 ∧ idnI y = idsI y := by
      rcases wf_form w.1 with ⟨m, zs, rfl, hm, hz⟩ | ⟨h1, h2, h3, h4, h5, h6, h7⟩
      · obtain ⟨b1, b2, b3, b4, b5, b6, b7⟩ := wf_parts n (ys := zs) (by simp at h; omega) hz
        refine ⟨by simpa using b1, ?_, ?_, ?_, ?_, ?_, ?_⟩
        · simp only [grI_g, List.all_cons, hm, b2, Bool.and_self]
        · simp only [idsI_g, List.all_cons, name_thing hm, b3, Bool.and_self]
        · simp only [idsI_g, grI_g, thI_g, List.cons_append]
          exact b4.cons m
        · simp only [dpI_g, grI_g, List.length_cons]; omega
        · simp only [idsI_g, List.length_cons, cnI_tup, cnAll_cons, cnAll_nil]; omega
        · simp only [idnI_g, idsI_g, if_pos hm, b7]
      · rw [h3, h4, h5, h6, h7]
        refine ⟨by simp [h1], by simp, by simp [h1], by simp, by simp, by simp, rfl⟩
    obtain ⟨b1, b2, b3, b4, b5, b6, b7⟩ := one
    simp only [thAll_cons, grAll_cons, idsAll_cons, idnAll_cons, dpAll_cons, cnAll_cons, List.all_append, List.length_append, Bool.and_eq_true]
    refine ⟨⟨b1, a1⟩, ⟨b2, a2⟩, ⟨b3, a3⟩, ?_, by omega, by omega, by rw [b7, a7]⟩
    have p1 := b4.append a4
    refine p1.trans ?_
    rw [List.append_assoc, List.append_assoc]
    refine List.Perm.append_left _ ?_
    rw [← List.append_assoc, ← List.append_assoc]
    exact List.Perm.append_right _ List.perm_append_comm
theorem idn_none : ∀ (n : Nat) {ys : List PyData}, cnAll ys ≤ n → (idnAll ys).all isId = true ∧ (PyData.none ∉ idnAll ys ↔ wfAll ys = true) ∧ (idnAll ys).length ≤ cnAll ys
  | _, [], _ => by simp
  | 0, y :: ys, h => by rw [cnAll_cons] at h; omega
  | n + 1, y :: ys, h => by
    rw [cnAll_cons] at h
    obtain ⟨a1, a2, a3⟩ := idn_none n (ys := ys) (by omega)
    have one : (idnI y).all isId = true ∧ (PyData.none ∉ idnI y ↔ wfI y = true) ∧ (idnI y).length ≤ cnI y + 1 := by
      rcases form y with ⟨m, zs, rfl⟩ | ⟨h1, h2, h3, h4, h5, h6, h7⟩
      · obtain ⟨b1, b2, b3⟩ := idn_none n (ys := zs) (by simp at h; omega)
        rw [idnI_g, wfI_g]
        by_cases hm : isName m = true
        · rw [if_pos hm, hm, Bool.true_and]
          refine ⟨by simp only [List.all_cons, thing_id (name_thing hm), b1, Bool.and_self], ?_, by simp; omega⟩
          rw [List.mem_cons, not_or, b2]
          refine ⟨fun z => z.2, fun z => ⟨fun e => ?_, z⟩⟩
          rw [← e] at hm
          cases hm
        · rw [if_neg hm]
          simp [hm, isId]
      · rw [h7, h2]
        by_cases ht : isThing y = true
        · rw [if_pos ht]
          refine ⟨by simp [thing_id ht], ?_, by simp⟩
          simp only [List.mem_singleton, ht, iff_true]
          intro e
          rw [← e] at ht
          cases ht
        · rw [if_neg ht]
          simp [ht, isId]
    obtain ⟨b1, b2, b3⟩ := one
    simp only [idnAll_cons, wfAll_cons, cnAll_cons, List.all_append, List.length_append, Bool.and_eq_true, List.mem_append, not_or]
    exact ⟨⟨b1, a1⟩, by rw [b2, a2], by omega⟩
/-- a list of different things of a list is no longer than it -/
theorem nodup_len {α : Type} : ∀ {l m : List α}, l.Nodup → (∀ x, x ∈ l → x ∈ m) → l.length ≤ m.length
  | [], _, _, _ => Nat.zero_le _
  | a :: l, m, nd, h => by
    obtain ⟨n1, n2⟩ := List.nodup_cons.mp nd
    obtain ⟨s, t, e⟩ := List.append_of_mem (h a List.mem_cons_self)
    have := nodup_len (m := s ++ t) n2 fun x hx => by
      have := h x (List.mem_cons_of_mem _ hx)
      rw [e] at this
      rcases List.mem_append.mp this with z | z
      · exact List.mem_append_left _ z
      · rcases List.mem_cons.mp z with z | z
        · subst z; exact absurd hx n1
        · exact List.mem_append_right _ z
    rw [e, List.length_append, List.length_cons]
    rw [List.length_append] at this
    rw [List.length_cons]
    omega
theorem names_few {l : List PyData} (h : l.all isName = true) (nd : l.Nodup) : l.length ≤ 3 :=
  nodup_len (m := [.str "a", .str "b", .str "c"]) nd fun x hx => by
    rcases name_cases (List.all_eq_true.mp h x hx) with e | e | e <;> simp [e]
/-- a right drawing -/
def Good (v : PyData) : Prop := ∃ ys, v = .tuple ys ∧ wfAll ys = true ∧ (idsAll ys).Nodup ∧ (thAll ys).length ≤ 40
open Classical in
noncomputable def goodD (v : PyData) : Bool := decide (Good v)
theorem key_names {l : List PyData} (h : l.all isName = true) : l.all isKey = true := by
  rw [List.all_eq_true] at h ⊢
  exact fun x hx => thing_key (name_thing (h x hx))
theorem key_things {l : List PyData} (h : l.all isThing = true) : l.all isKey = true := by
  rw [List.all_eq_true] at h ⊢
  exact fun x hx => thing_key (h x hx)
theorem id_things {l : List PyData} (h : l.all isThing = true) : l.all isId = true := by
  rw [List.all_eq_true] at h ⊢
  exact fun x hx => thing_id (h x hx)
theorem id_names {l : List PyData} (h : l.all isName = true) : l.all isId = true := by
  rw [List.all_eq_true] at h ⊢
  exact fun x hx => thing_id (name_thing (h x hx))
theorem allBools_map {α : Type} (f : α → Bool) : ∀ l : List α, allBools (l.map fun x => PyData.bool (f x)) = some (l.map f)
  | [] => rfl
  | x :: l => by
    show (allBools (l.map fun x => PyData.bool (f x))).map (f x :: ·) = _
    rw [allBools_map f l]
    rfl
theorem allG_map {α : Type} (f : α → Bool) (l : List α) : allG (.list (l.map fun x => PyData.bool (f x))) = some (dB (l.all f)) := by
  unfold allG
  simp [allBools_map]
theorem anyG_map {α : Type} (f : α → Bool) (l : List α) : anyG (.list (l.map fun x => PyData.bool (f x))) = some (dB (l.any f)) := by
  unfold anyG
  simp [allBools_map]
open Classical in
theorem goodD_eq {v : PyData} {b : Bool} (h : Good v ↔ b = true) : goodD v = b := by
  unfold goodD
  cases b with
  | true => exact decide_eq_true (h.mpr rfl)
  | false => exact decide_eq_false fun z => by cases h.mp z
theorem right_eq (v : PyData) (S : Store) (hc : cnI v ≤ 4000) : F_is_right_drawing [.d v] S = .ok (dB (goodD v)) S := by
  show endF (g_is_right_drawing [some (.d v), none, none, none] S) = _
  by_cases ht : isTup v = true
  · cases v with
    | tuple ys =>
      have h3 : F_are_items 40 [.d (.tuple ys), .d (.int 3)] S = _ := items_eq S 40 3 ys (by omega)
      rw [cnI_tup] at hc
      by_cases w : wfAll ys = true
      · obtain ⟨a1, a2, a3, a4, a5, a6, a7⟩ := wf_parts _ (Nat.le_refl (cnAll ys)) w
        have l1 := a4.length_eq
        rw [List.length_append] at l1
        have nd := a4.nodup_iff
        rw [List.nodup_append] at nd
        by_cases hd : dpAll ys ≤ 3
        · have e1 := things_eq S 40 ys w (by omega) (by omega)
          have e2 := groups_eq S 40 ys w (by omega) (by omega)
          obtain ⟨n1, s1, _, s2, s3⟩ := set_len (key_things a1) (by omega)
          obtain ⟨n2, t1, _, t2, t3⟩ := set_len (key_names a2) (by omega)
          have lc : lcD (tgN 3) none e_is_right_drawing_1 [some (.d (.tuple ys)), some (.d (.list (thAll ys))), some (.d (.list (grAll ys))), none] (grAll ys) [] S = .ok (.own ((grAll ys).map fun x => PyData.bool (!((thAll ys).any fun z => PyData.eqv z x)))) S := by
            have := lcD_pure (t := tgN 3) (test := none) (elt := e_is_right_drawing_1) (env := [some (.d (.tuple ys)), some (.d (.list (thAll ys))), some (.d (.list (grAll ys))), none]) (S := S) (p := fun _ => true) (f := fun x => PyData.bool (!((thAll ys).any fun z => PyData.eqv z x))) (grAll ys) [] (fun d hd => ⟨_, rfl, rfl, fun _ => by
              unfold e_is_right_drawing_1
              simp [inG_list (id_shaped (thing_id (name_thing (List.all_eq_true.mp a2 d hd)))) (ids_shaped (id_things a1)).1]⟩) (by simp; omega)
            rw [this, List.filter_eq_self.mpr (fun _ _ => rfl)]
            rfl
          unfold g_is_right_drawing
          simp [h3, w, hd, e1, e2, s1, t1, lc, allG_map]
          have key : Good (.tuple ys) ↔ (thAll ys).length ≤ 40 ∧ n1 = (thAll ys).length ∧ n2 = (grAll ys).length ∧ ((grAll ys).all fun x => !((thAll ys).any fun z => PyData.eqv z x)) = true := by
            rw [s3, t3, List.all_eq_true]
            constructor
            · rintro ⟨zs, e, _, g1, g2⟩
              cases e
              obtain ⟨q1, q2, q3⟩ := nd.mp g1
              refine ⟨g2, q2, q1, fun x hx => ?_⟩
              rw [Bool.not_eq_true', ← Bool.not_eq_true, any_eqv (thing_key (name_thing (List.all_eq_true.mp a2 x hx))) (key_things a1)]
              exact fun hm => q3 x hx x hm rfl
            · rintro ⟨g2, q2, q1, q3⟩
              refine ⟨ys, rfl, w, nd.mpr ⟨q1, q2, fun x hx y hy e => ?_⟩, g2⟩
              subst e
              have := q3 x hx
              rw [Bool.not_eq_true', ← Bool.not_eq_true, any_eqv (thing_key (name_thing (List.all_eq_true.mp a2 x hx))) (key_things a1)] at this
              exact this hy
          by_cases c1 : (thAll ys).length ≤ 40
          · by_cases c2 : n1 = (thAll ys).length
            · by_cases c3 : n2 = (grAll ys).length
              · rw [goodD_eq (b := (grAll ys).all fun x => !((thAll ys).any fun z => PyData.eqv z x)) (by rw [key]; exact ⟨fun z => z.2.2.2, fun z => ⟨c1, c2, c3, z⟩⟩)]
                simp [c1, c2, c3, show ¬ (40 : Int) < (thAll ys).length by omega]
                simp [lc, allG_map]
              · rw [goodD_eq (b := false) (by rw [key]; exact ⟨fun z => absurd z.2.2.1 c3, fun z => by cases z⟩)]
                simp [show ¬ (40 : Int) < (thAll ys).length by omega, c2, show n2 < (grAll ys).length by omega]
            · rw [goodD_eq (b := false) (by rw [key]; exact ⟨fun z => absurd z.2.1 c2, fun z => by cases z⟩)]
              simp [show ¬ (40 : Int) < (thAll ys).length by omega, show n1 < (thAll ys).length by omega]
          · rw [goodD_eq (b := false) (by rw [key]; exact ⟨fun z => absurd z.1 c1, fun z => by cases z⟩)]
            simp [show (40 : Int) < (thAll ys).length by omega]
        · have : goodD (.tuple ys) = false := goodD_eq (b := false) ⟨fun ⟨zs, e, _, g1, _⟩ => by
            cases e
            have := names_few a2 (nd.mp g1).1
            omega, fun z => by cases z⟩
          unfold g_is_right_drawing
          simp [h3, hd, this]
      · have : goodD (.tuple ys) = false := goodD_eq (b := false) ⟨fun ⟨zs, e, g1, _⟩ => by
          cases e
          exact absurd g1 w, fun z => by cases z⟩
        unfold g_is_right_drawing
        simp [h3, w, this]
    | _ => cases ht
  · have ht' : isTup v = false := by simpa using ht
    have h3 : F_are_items 40 [.d v, .d (.int 3)] S = _ := items_no S 39 3 v ht'
    have : goodD v = false := goodD_eq (b := false) ⟨fun ⟨zs, e, _⟩ => (by rw [e] at ht'; cases ht'), fun z => by cases z⟩
    unfold g_is_right_drawing
    simp [h3, this]
end P

set_option Elab.async false
set_option linter.all false
set_option maxRecDepth 100000
set_option maxHeartbeats 4000000
/-! P3: good commands, scripts; the law's own recognizers. -/
namespace P
open PySem PySem.Spec PyProof.Rows L2 DL U

theorem cut_from {xs : List PyData} {k : Nat} (h : k ≤ xs.length) : DL.cutD xs (some (k : Int)) none = xs.drop k := by
  unfold DL.cutD
  rw [HT.sIx_nat, HT.sIx_none, Nat.min_eq_left h, List.take_of_length_le (by simp)]
theorem cut_to {xs : List PyData} {k : Nat} (h : k ≤ xs.length) : DL.cutD xs none (some (k : Int)) = xs.take k := by
  unfold DL.cutD
  rw [HT.sIx_nat, HT.sIx_none, Nat.min_eq_left h]
  simp
theorem lcD_map {t : DG} {elt : DE} {env : DL.Env} {S : Store} {f : PyData → PyData} (xs : List PyData) (h : ∀ d, d ∈ xs → ∃ env1, t (.d d) env = some env1 ∧ ∃ v, elt env1 S = .ok v S ∧ v.fixed = some (.d (f d))) (hl : xs.length ≤ 100000) : lcD t none elt env xs [] S = .ok (.own (xs.map f)) S := by
  have := lcD_pure (t := t) (test := none) (elt := elt) (env := env) (S := S) (p := fun _ => true) (f := f) xs [] (fun d hd => by
    obtain ⟨e, h1, h2⟩ := h d hd
    exact ⟨e, h1, rfl, fun _ => h2⟩) (by simpa using hl)
  rw [this, List.filter_eq_self.mpr (fun _ _ => rfl)]
  rfl
theorem lcD_filter {t : DG} {test elt : DE} {env : DL.Env} {S : Store} {p : PyData → Bool} (xs : List PyData) (h : ∀ d, d ∈ xs → ∃ env1, t (.d d) env = some env1 ∧ test env1 S = .ok (dB (p d)) S ∧ ∃ v, elt env1 S = .ok v S ∧ v.fixed = some (.d d)) (hl : xs.length ≤ 100000) : lcD t (some test) elt env xs [] S = .ok (.own (xs.filter p)) S := by
  have := lcD_pure (t := t) (test := some test) (elt := elt) (env := env) (S := S) (p := p) (f := id) xs [] (fun d hd => by
    obtain ⟨e, h1, h2, h3⟩ := h d hd
    exact ⟨e, h1, h2, fun _ => h3⟩) (by simpa using hl)
  rw [this]
  simp
theorem eqv_nilT {xs : List PyData} : PyData.eqv (.tuple xs) (.tuple []) = xs.isEmpty := by cases xs <;> simp [PyData.eqv, PyData.eqvAll]
theorem eqv_nilL {xs : List PyData} : PyData.eqv (.list xs) (.list []) = xs.isEmpty := by cases xs <;> simp [PyData.eqv, PyData.eqvAll]
theorem shaped_nilT : SeqAt.shaped (.tuple []) = true := by decide +kernel
theorem shaped_nilL : SeqAt.shaped (.list []) = true := by decide +kernel
def words1 : List PyData := [.str "front", .str "back", .str "up", .str "down", .str "ungroup"]
def words2 : List PyData := [.str "above", .str "below"]
/-- how many names go with a word -/
def kind (s : Str) : Nat := if (words1.any fun z => PyData.eqv z (.str s)) = true then 1 else if (words2.any fun z => PyData.eqv z (.str s)) = true then 2 else if PyData.eqv (.str "group") (.str s) = true then 3 else 0
open Classical in
noncomputable def cmdD : PyData → Bool
  | .tuple (.str s :: r) => decide (r.all isName = true ∧ r.Nodup ∧ kind s = r.length ∧ r.length ≠ 0)
  | _ => false
open Classical in
theorem cm_eq (v : PyData) (S : Store) (hs : SeqAt.shaped v = true) (hc : cnI v ≤ 4000) (hl : ∀ s r, v = .tuple (.str s :: r) → r.length ≤ 4000) : F_is_right_command [.d v] S = .ok (dB (cmdD v)) S := by
  show endF (g_is_right_command [some (.d v), none, none] S) = _
  cases v with
  | tuple ys =>
    cases ys with
    | nil =>
      unfold g_is_right_command
      simp [eqG_sh hs shaped_nilT, eqv_nilT, cmdD]
    | cons x r =>
      cases x with
      | str s =>
        have h4 := hl s r rfl
        have c1 : DL.cutD (.str s :: r) (some 1) none = r := cut_from (k := 1) (by simp)
        have lc : lcD (tgN 2) none e_is_right_command_1 [some (.d (.tuple (.str s :: r))), some (.d (.tuple r)), none] r [] S = .ok (.own (r.map fun x => PyData.bool (isName x))) S :=
          lcD_map r (fun d hd => ⟨_, rfl, by unfold e_is_right_command_1; simp [name_eq]⟩) (by omega)
        have w1 : inG false (.str s) (.tuple words1) = _ := inG_tup (by rfl) (by rfl)
        have w2 : inG false (.str s) (.tuple words2) = _ := inG_tup (by rfl) (by rfl)
        rw [if_neg Bool.false_ne_true] at w1 w2
        have w3 : eqG (.str s) (.str "group") = some (dB (PyData.eqv (.str "group") (.str s))) := by
          rw [eqG_sh]
          · simp only [PyData.eqv]
            rw [BEq.comm]
          · have := hs
            unfold SeqAt.shaped at this ⊢
            simp only [Bool.and_eq_true, PyData.canLay0, PyData.canLayAll0] at this ⊢
            exact ⟨this.1.1, by simp [PyData.depth]⟩
          · decide +kernel
        have hk : ∀ b, (b = true ↔ (r.all isName = true ∧ r.Nodup ∧ kind s = r.length ∧ r.length ≠ 0)) → cmdD (.tuple (.str s :: r)) = b := fun b h => by
          unfold cmdD
          cases b with
          | true => exact decide_eq_true (h.mp rfl)
          | false => exact decide_eq_false fun z => by cases h.mpr z
        cases ha : r.all isName with
        | false =>
          unfold g_is_right_command
          rw [hk false (by simp [ha])]
          simp [eqG_sh hs shaped_nilT, eqv_nilT, c1, lc, allG_map, ha]
        | true =>
          obtain ⟨n1, _, s1, s2, s3⟩ := set_len (key_names ha) h4
          by_cases hn : n1 = r.length
          · have hnd := s3.mp hn
            generalize q1 : (words1.any fun z => PyData.eqv z (.str s)) = b1 at w1
            generalize q2 : (words2.any fun z => PyData.eqv z (.str s)) = b2 at w2
            generalize q3 : PyData.eqv (.str "group") (.str s) = b3 at w3
            unfold words1 at w1
            unfold words2 at w2
            have hkd : kind s = if b1 = true then 1 else if b2 = true then 2 else if b3 = true then 3 else 0 := by unfold kind; rw [q1, q2, q3]
            unfold g_is_right_command
            cases b1 with
            | true =>
              rw [hk (r.length == 1) (by rw [beq_iff_eq, hkd]; exact ⟨fun e => ⟨ha, hnd, by simp [e], by omega⟩, fun z => z.2.2.1.symm.trans (by simp)⟩)]
              simp [eqG_sh hs shaped_nilT, eqv_nilT, c1, lc, allG_map, ha, s1, hn, w1]
              exact Bool.eq_iff_iff.mpr (by simp; omega)
            | false =>
              cases b2 with
              | true =>
                rw [hk (r.length == 2) (by rw [beq_iff_eq, hkd]; exact ⟨fun e => ⟨ha, hnd, by simp [e], by omega⟩, fun z => z.2.2.1.symm.trans (by simp)⟩)]
                simp [eqG_sh hs shaped_nilT, eqv_nilT, c1, lc, allG_map, ha, s1, hn, w1, w2]
                exact Bool.eq_iff_iff.mpr (by simp; omega)
              | false =>
                cases b3 with
                | true =>
                  rw [hk (r.length == 3) (by rw [beq_iff_eq, hkd]; exact ⟨fun e => ⟨ha, hnd, by simp [e], by omega⟩, fun z => z.2.2.1.symm.trans (by simp)⟩)]
                  simp [eqG_sh hs shaped_nilT, eqv_nilT, c1, lc, allG_map, ha, s1, hn, w1, w2, w3]
                  exact Bool.eq_iff_iff.mpr (by simp; omega)
                | false =>
                  rw [hk false (by rw [hkd]; exact ⟨fun e => (by cases e), fun z => absurd z.2.2.1.symm (by simpa using z.2.2.2)⟩)]
                  simp [eqG_sh hs shaped_nilT, eqv_nilT, c1, lc, allG_map, ha, s1, hn, w1, w2, w3]
          · have : ¬ r.Nodup := fun z => hn (s3.mpr z)
            unfold g_is_right_command
            rw [hk false (by simp [this])]
            simp [eqG_sh hs shaped_nilT, eqv_nilT, c1, lc, allG_map, ha, s1, show n1 < r.length by omega]
      | _ =>
        unfold g_is_right_command
        simp [eqG_sh hs shaped_nilT, eqv_nilT, cmdD]
  | _ =>
    unfold g_is_right_command
    simp [cmdD]
/-- what is needed of a value that is looked at -/
structure Fit (v : PyData) : Prop where
  sh : SeqAt.shaped v = true
  cn : cnI v ≤ 4000
theorem cn_len : ∀ (xs : List PyData), xs.length ≤ cnAll xs
  | [] => Nat.zero_le _
  | x :: xs => by
    have := cn_len xs
    rw [List.length_cons, cnAll_cons]
    omega
theorem cn_mem {xs : List PyData} {x : PyData} (h : x ∈ xs) : cnI x + 1 ≤ cnAll xs := by
  induction xs with
  | nil => cases h
  | cons y xs ih =>
    rw [cnAll_cons]
    rcases List.mem_cons.mp h with e | e
    · rw [e]; omega
    · have := ih e
      omega
theorem lay_mem {xs : List PyData} {x : PyData} (h : x ∈ xs) : (PyData.canLayAll0 xs = true → x.canLay0 = true) ∧ x.depth ≤ PyData.depthAll xs := by
  induction xs with
  | nil => cases h
  | cons y xs ih =>
    simp only [PyData.canLayAll0, PyData.depthAll, Bool.and_eq_true]
    rcases List.mem_cons.mp h with e | e
    · rw [e]
      exact ⟨fun z => z.1, Nat.le_max_left _ _⟩
    · obtain ⟨a, b⟩ := ih e
      exact ⟨fun z => a z.2, Nat.le_trans b (Nat.le_max_right _ _)⟩
theorem Fit.parts {xs : List PyData} (h : Fit (.tuple xs)) : ∀ x, x ∈ xs → Fit x := fun x hx => by
  obtain ⟨h1, h2⟩ := h
  obtain ⟨a, b⟩ := lay_mem hx
  have := cn_mem hx
  rw [cnI_tup] at h2
  have d1 := SeqAt.depth_of_shaped h1
  have d2 := SeqAt.canLay_of_shaped h1
  simp only [PyData.depth] at d1
  simp only [PyData.canLay0] at d2
  exact ⟨canLay_shaped (a d2) (by omega), by omega⟩
theorem Fit.cm {v : PyData} (h : Fit v) (S : Store) : F_is_right_command [.d v] S = .ok (dB (cmdD v)) S :=
  cm_eq v S h.sh h.cn fun s r e => by
    subst e
    have := cn_len (.str s :: r)
    have := h.cn
    rw [cnI_tup] at this
    rw [List.length_cons] at *
    omega
noncomputable def scrD : PyData → Bool
  | .tuple xs => decide (xs.length ≤ 4) && xs.all cmdD
  | _ => false
theorem Fit.scr {v : PyData} (h : Fit v) (S : Store) : F_is_right_script [.d v] S = .ok (dB (scrD v)) S := by
  show endF (g_is_right_script [some (.d v), none] S) = _
  cases v with
  | tuple xs =>
    have hc := h.cn
    rw [cnI_tup] at hc
    have := cn_len xs
    have lc : lcD (tgN 1) none e_is_right_script_1 [some (.d (.tuple xs)), none] xs [] S = .ok (.own (xs.map fun x => PyData.bool (cmdD x))) S :=
      lcD_map xs (fun d hd => ⟨_, rfl, by unfold e_is_right_script_1; simp [(h.parts d hd).cm]⟩) (by omega)
    unfold g_is_right_script
    by_cases hl : xs.length ≤ 4
    · simp [lc, allG_map, scrD, hl, show (xs.length : Int) ≤ 4 by omega]
    · simp [lc, allG_map, scrD, hl, show ¬ (xs.length : Int) ≤ 4 by omega]
  | _ =>
    unfold g_is_right_script
    simp [scrD]
theorem drawing_eq (v : PyData) (S : Store) (hc : cnI v ≤ 4000) : F_is_drawing [.d v] S = .ok (dB (goodD v)) S := by
  show endF (g_is_drawing [some (.d v)] S) = _
  unfold g_is_drawing
  simp [right_eq v S hc]
theorem Fit.cmd {v : PyData} (h : Fit v) (S : Store) : F_is_command [.d v] S = .ok (dB (cmdD v)) S := by
  show endF (g_is_command [some (.d v)] S) = _
  unfold g_is_command
  simp [h.cm]
theorem Fit.script {v : PyData} (h : Fit v) (S : Store) : F_is_script [.d v] S = .ok (dB (scrD v)) S := by
  show endF (g_is_script [some (.d v)] S) = _
  unfold g_is_script
  simp [h.scr]
/-- a plain drawing -/
def grD : PyData → List PyData
  | .tuple ys => grAll ys
  | _ => []
open Classical in
theorem good_parts {v : PyData} (h : goodD v = true) : ∃ ys, v = .tuple ys ∧ wfAll ys = true ∧ (idsAll ys).Nodup ∧ (thAll ys).length ≤ 40 := by
  unfold goodD at h
  exact of_decide_eq_true h
theorem plain_eq (v : PyData) (S : Store) (hc : cnI v ≤ 4000) : F_is_plain [.d v] S = .ok (dB (goodD v && (grD v).isEmpty)) S := by
  show endF (g_is_plain [some (.d v)] S) = _
  unfold g_is_plain
  cases hg : goodD v with
  | false => simp [right_eq v S hc, hg]
  | true =>
    obtain ⟨ys, rfl, w, nd, hl⟩ := good_parts hg
    obtain ⟨a1, a2, a3, a4, a5, a6, a7⟩ := wf_parts _ (Nat.le_refl (cnAll ys)) w
    have n2 := a4.nodup_iff.mp nd
    rw [List.nodup_append] at n2
    have := names_few a2 n2.1
    simp [right_eq _ S hc, hg, groups_eq S 40 ys w (by omega) (by omega), eqG_sh (ids_shaped (id_names a2)).1 shaped_nilL, eqv_nilL, grD]
/-! ### the law's own -/
theorem lname_eq (v : PyData) (S : Store) : F__law_is_name [.d v] S = .ok (dB (isName v)) S := by
  show endF (g__law_is_name [some (.d v)] S) = _
  unfold g__law_is_name
  cases v <;> simp [inG, flatD, isName, PyData.eqv]
def is99 : PyData → Bool
  | .int i => decide (0 ≤ i) && decide (i ≤ 99)
  | _ => false
def isWide (lo hi : Int) : PyData → Bool
  | .tuple xs => decide (lo ≤ xs.length) && decide ((xs.length : Int) ≤ hi)
  | _ => false
@[simp] theorem isName_tup {xs : List PyData} : isName (.tuple xs) = false := rfl
@[simp] theorem is99_tup {xs : List PyData} : is99 (.tuple xs) = false := rfl
@[simp] theorem isThing_tupS {xs : List PyData} : isThing (.tuple xs) = false := rfl
theorem lwhole_eq (v : PyData) (S : Store) : F__law_whole [.d v, .d (.int 0), .d (.int 99)] S = .ok (dB (is99 v)) S := by
  show endF (g__law_whole [some (.d v), some (.d (.int 0)), some (.d (.int 99))] S) = _
  unfold g__law_whole
  cases v with
  | int i => by_cases h : 0 ≤ i <;> simp [h, is99]
  | _ => simp [is99]
theorem lwide_eq (v : PyData) (lo hi : Int) (S : Store) : F__law_wide [.d v, .d (.int lo), .d (.int hi)] S = .ok (dB (isWide lo hi v)) S := by
  show endF (g__law_wide [some (.d v), some (.d (.int lo)), some (.d (.int hi))] S) = _
  unfold g__law_wide
  cases v with
  | tuple xs => by_cases h : lo ≤ xs.length <;> simp [h, isWide]
  | _ => simp [isWide]
theorem lbool_eq (a b : Bool) (S : Store) : F__law_is_bool [.d (.bool a), .d (.bool b)] S = .ok (dB (a == b)) S := by
  show endF (g__law_is_bool [some (.d (.bool a)), some (.d (.bool b))] S) = _
  unfold g__law_is_bool
  simp [eqG_sh, PyData.eqv]
theorem lids_aux (S : Store) (a : Option EV) (F : DF) : ∀ (ys : List PyData) (acc : List PyData) (e : Option EV), (∀ n zs, .tuple [n, .tuple zs] ∈ ys → isName n = true → F [.d (.tuple zs)] S = .ok (.own (idnAll zs)) S) → acc.length + (idnAll ys).length ≤ 100000 →
    ∃ e', forD (tgN 2) (b__law_ids_1 F) ys [a, some (.own acc), e] S = .next [a, some (.own (acc ++ idnAll ys)), e'] S
  | [], acc, e, _, _ => ⟨e, by simp [forD]⟩
  | y :: ys, acc, e, hF, hl => by
    rw [idnAll_cons, List.length_append] at hl
    unfold forD
    have hb : b__law_ids_1 F ([a, some (.own acc), e].set 2 (some (.d y))) S = .next [a, some (.own (acc ++ idnI y)), some (.d y)] S := by
      unfold b__law_ids_1
      have app : ∀ z : PyData, acc.length < LIM := fun z => by
        unfold LIM; omega
      rcases form y with ⟨n, zs, rfl⟩ | ⟨h', h2, h3, h4, h5, h6, h7⟩
      · rw [idnI_g] at hl ⊢
        by_cases hn : isName n = true
        · have := hF n zs (by simp) hn
          rw [if_pos hn] at hl ⊢
          simp at hl
          simp [lwide_eq, isWide, lname_eq, hn, this, addG_list (show acc.length + [n].length ≤ 100000 by simp; omega), addG_list (show (acc ++ [n]).length + (idnAll zs).length ≤ 100000 by simp; omega)]
        · have hn' : isName n = false := by simpa using hn
          simp [lwide_eq, isWide, lname_eq, hn', appS, lwhole_eq, app .none]
      · rw [h7] at hl ⊢
        have hw : isWide 2 2 y = true → ∃ n m, y = .tuple [n, m] ∧ isTup m = false := fun h => by
          cases y with
          | tuple xs =>
            simp [isWide] at h
            match xs, h with
            | [n, m], _ =>
              refine ⟨n, m, rfl, ?_⟩
              cases m <;> first | rfl | exact absurd rfl (h' _ _)
            | [], h => simp at h
            | [_], h => simp at h
            | _ :: _ :: _ :: _, h => simp at h; omega
          | _ => cases h
        have fin : isThing y = (isName y || is99 y) := by
          cases y <;> simp [isThing, isName, is99]
        cases hq : isWide 2 2 y with
        | true =>
          obtain ⟨n, m, rfl, hm⟩ := hw hq
          have ht : ¬ (tyD m = "tuple") := by cases m <;> first | (simp; done) | cases hm
          cases hn : isName n <;> simp [lwide_eq, hq, lname_eq, hn, appS, lwhole_eq, app .none, ht]
        | false =>
          rw [fin]
          cases hn : isName y with
          | true => simp [lwide_eq, hq, lname_eq, hn, appS, app .none]
          | false =>
            cases hi : is99 y <;> simp [lwide_eq, hq, lname_eq, hn, lwhole_eq, hi, appS, app .none]
    obtain ⟨e', h⟩ := lids_aux S a F ys (acc ++ idnI y) (some (.d y)) (fun n zs hm => hF n zs (List.mem_cons_of_mem _ hm)) (by rw [List.length_append]; omega)
    refine ⟨e', ?_⟩
    simp only [tgN_ap, hb]
    rw [h, idnAll_cons, List.append_assoc]
theorem gd_mem {ys zs : List PyData} {n : PyData} (h : PyData.tuple [n, .tuple zs] ∈ ys) : PyData.depthAll zs + 2 ≤ PyData.depthAll ys ∧ (idnAll zs).length ≤ cnAll zs ∧ cnAll zs + 3 ≤ cnAll ys := by
  have h1 := (lay_mem h).2
  have h2 := cn_mem h
  simp only [PyData.depth, PyData.depthAll] at h1
  simp at h2
  exact ⟨by omega, (idn_none _ (Nat.le_refl _)).2.2, by omega⟩
theorem lids_eq (S : Store) : ∀ (d : Nat) (ys : List PyData), PyData.depthAll ys < d → cnAll ys ≤ 100000 → F__law_ids d [.d (.tuple ys)] S = .ok (.own (idnAll ys)) S
  | 0, ys, h, _ => by omega
  | d + 1, ys, h, hl => by
    show endF (g__law_ids (F__law_ids d) [some (.d (.tuple ys)), none, none] S) = _
    have l := (idn_none _ (Nat.le_refl (cnAll ys))).2.2
    obtain ⟨e', h2⟩ := lids_aux S (some (.d (.tuple ys))) (F__law_ids d) ys [] none (fun n zs hm _ => by
      obtain ⟨h1, h2, h3⟩ := gd_mem hm
      exact lids_eq S d zs (by omega) (by omega)) (by simpa using Nat.le_trans l hl)
    unfold g__law_ids
    simp [h2]
theorem lthings_aux (S : Store) (a : Option EV) (F : DF) : ∀ (ys : List PyData) (acc : List PyData) (e : Option EV), wfAll ys = true → (∀ n zs, .tuple [n, .tuple zs] ∈ ys → F [.d (.tuple zs)] S = .ok (.d (.list (thAll zs))) S) → acc.length + (thAll ys).length ≤ 100000 →
    ∃ e', forD (tgN 2) (b__law_things_1 F) ys [a, some (.d (.list acc)), e] S = .next [a, some (.d (.list (acc ++ thAll ys))), e'] S
  | [], acc, e, _, _, _ => ⟨e, by simp [forD]⟩
  | y :: ys, acc, e, w, hF, hl => by
    rw [wfAll_cons, Bool.and_eq_true] at w
    rw [thAll_cons, List.length_append] at hl
    unfold forD
    have hb : b__law_things_1 F ([a, some (.d (.list acc)), e].set 2 (some (.d y))) S = .next [a, some (.d (.list (acc ++ thI y))), some (.d y)] S := by
      unfold b__law_things_1
      rcases wf_form w.1 with ⟨n, zs, rfl, _, _⟩ | ⟨h1, h2, _, h3, _⟩
      · have := hF n zs (by simp)
        rw [thI_g] at hl
        simp [this, addG_list (show acc.length + (thAll zs).length ≤ 100000 by omega)]
      · rw [h3] at hl ⊢
        have h4 : (tyD y == "tuple") = false := by cases y <;> first | rfl | cases h2
        have h5 : ¬ (tyD y = "tuple") := fun z => by rw [z] at h4; simp at h4
        simp [h4, h5, addG_list (show acc.length + [y].length ≤ 100000 by simp at hl ⊢; omega)]
    obtain ⟨e', h⟩ := lthings_aux S a F ys (acc ++ thI y) (some (.d y)) w.2 (fun n zs hm => hF n zs (List.mem_cons_of_mem _ hm)) (by rw [List.length_append]; omega)
    refine ⟨e', ?_⟩
    simp only [tgN_ap, hb]
    rw [h, thAll_cons, List.append_assoc]
theorem lthings_eq (S : Store) : ∀ (d : Nat) (ys : List PyData), wfAll ys = true → dpAll ys < d → (thAll ys).length ≤ 100000 → F__law_things d [.d (.tuple ys)] S = .ok (.d (.list (thAll ys))) S
  | 0, ys, _, h, _ => by omega
  | d + 1, ys, w, h, hl => by
    show endF (g__law_things (F__law_things d) [some (.d (.tuple ys)), none, none] S) = _
    obtain ⟨e', h2⟩ := lthings_aux S (some (.d (.tuple ys))) (F__law_things d) ys [] none w (fun n zs hm => by
      obtain ⟨h1, h2, h3, _⟩ := wf_mem w hm
      rw [wfI_g, Bool.and_eq_true] at h1
      rw [dpI_g] at h2
      rw [thI_g] at h3
      exact lthings_eq S d zs h1.2 (by omega) (by omega)) (by simpa using hl)
    unfold g__law_things
    simp [h2]
/-- what a law looks at: not too deep, either -/
structure Fit2 (v : PyData) : Prop extends Fit v where
  dp : v.depth ≤ 39
theorem eqv_none {z : PyData} : PyData.eqv z .none = true ↔ z = .none := by cases z <;> simp [PyData.eqv]
theorem wf_dp : ∀ (n : Nat) {ys : List PyData}, cnAll ys ≤ n → dpAll ys ≤ PyData.depthAll ys
  | _, [], _ => by simp
  | 0, y :: ys, h => by rw [cnAll_cons] at h; omega
  | n + 1, y :: ys, h => by
    rw [cnAll_cons] at h
    have a := wf_dp n (ys := ys) (by omega)
    simp only [dpAll_cons, PyData.depthAll]
    rcases form y with ⟨m, zs, rfl⟩ | ⟨_, _, _, _, _, h6, _⟩
    · have b := wf_dp n (ys := zs) (by simp at h; omega)
      simp only [dpI_g, PyData.depth, PyData.depthAll]
      omega
    · omega
theorem Fit2.good {v : PyData} (h : Fit2 v) (S : Store) : F__law_good_drawing [.d v] S = .ok (dB (goodD v)) S := by
  show endF (g__law_good_drawing [some (.d v), none] S) = _
  cases v with
  | tuple ys =>
    have hc := h.cn
    rw [cnI_tup] at hc
    have hd := h.dp
    simp only [PyData.depth] at hd
    have hi := lids_eq S 40 ys (by omega) (by omega)
    obtain ⟨i1, i2, i3⟩ := idn_none _ (Nat.le_refl (cnAll ys))
    have hin : inG true .none (.list (idnAll ys)) = _ := inG_list shaped_none (ids_shaped i1).1
    rw [if_pos rfl] at hin
    have hq : (!((idnAll ys).any fun z => PyData.eqv z .none)) = wfAll ys := by
      rw [Bool.eq_iff_iff, ← i2, Bool.not_eq_true', ← Bool.not_eq_true, List.any_eq_true]
      exact ⟨fun z hm => z ⟨_, hm, eqv_none.mpr rfl⟩, fun z ⟨x, h1, h2⟩ => z (by rw [← eqv_none.mp h2]; exact h1)⟩
    rw [hq] at hin
    unfold g__law_good_drawing
    cases w : wfAll ys with
    | false =>
      rw [w] at hin
      rw [goodD_eq (b := false) ⟨fun ⟨zs, e, g1, _⟩ => (by cases e; rw [w] at g1; cases g1), fun z => by cases z⟩]
      simp [hi, hin]
    | true =>
      rw [w] at hin
      obtain ⟨a1, a2, a3, a4, a5, a6, a7⟩ := wf_parts _ (Nat.le_refl (cnAll ys)) w
      rw [a7] at hi hin
      obtain ⟨n1, s1, _, s2, s3⟩ := set_len (key_things a3) (by omega)
      have l1 := a4.length_eq
      rw [List.length_append] at l1
      have dl := wf_dp _ (Nat.le_refl (cnAll ys))
      have ht := lthings_eq S 40 ys w (by omega) (by omega)
      by_cases hn : n1 = (idsAll ys).length
      · rw [goodD_eq (b := decide ((thAll ys).length ≤ 40)) ⟨fun ⟨zs, e, _, _, g2⟩ => (by cases e; exact decide_eq_true g2), fun z => ⟨ys, rfl, w, s3.mp hn, of_decide_eq_true z⟩⟩]
        simp [hi, hin, s1, hn, ht]
        omega
      · rw [goodD_eq (b := false) ⟨fun ⟨zs, e, _, g1, _⟩ => (by cases e; exact absurd (s3.mpr g1) hn), fun z => by cases z⟩]
        have : ((n1 : Int) == ((idsAll ys).length : Int)) = false := by
          rw [beq_eq_false_iff_ne]
          omega
        simp [hi, hin, s1, this]
  | _ =>
    rw [goodD_eq (b := false) ⟨fun ⟨zs, e, _⟩ => (by cases e), fun z => by cases z⟩]
    unfold g__law_good_drawing
    simp
end P

set_option Elab.async false
set_option linter.all false
set_option maxRecDepth 100000
set_option maxHeartbeats 4000000
/-! P4: the law's good commands, scripts. -/
namespace P
open PySem PySem.Spec PyProof.Rows L2 DL U

@[simp] theorem get2E_ap {fo fe ff : DE} {env : DL.Env} {S : Store} : get2E fo fe ff env S = (fo env S).bind fun x S1 => match x with
  | .d (.dict ks) => (fe env S1).bind fun y S2 => (ff env S2).bind fun z S3 => match y, z with
    | .d (.str k), .d dz => .ok (.d ((lookD ks k).getD dz)) S3
    | _, _ => .stuck
  | _ => .stuck := rfl
theorem lay_all {xs : List PyData} (h : ∀ x, x ∈ xs → x.canLay0 = true) : PyData.canLayAll0 xs = true := by
  induction xs with
  | nil => simp [PyData.canLayAll0]
  | cons x xs ih => simp [PyData.canLayAll0, h x, ih fun y hy => h y (List.mem_cons_of_mem _ hy)]
theorem dep_all {n : Nat} {xs : List PyData} (h : ∀ x, x ∈ xs → x.depth ≤ n) : PyData.depthAll xs ≤ n := by
  induction xs with
  | nil => simp [PyData.depthAll]
  | cons x xs ih =>
    simp only [PyData.depthAll]
    exact Nat.max_le.mpr ⟨h x List.mem_cons_self, ih fun y hy => h y (List.mem_cons_of_mem _ hy)⟩
theorem shaped_sub {xs ys : List PyData} (h : SeqAt.shaped (.tuple ys) = true) (hs : ∀ x, x ∈ xs → x ∈ ys) : SeqAt.shaped (.list xs) = true ∧ SeqAt.shaped (.tuple xs) = true := by
  have d1 := SeqAt.depth_of_shaped h
  have d2 := SeqAt.canLay_of_shaped h
  simp only [PyData.depth] at d1
  simp only [PyData.canLay0] at d2
  have l := lay_all (xs := xs) fun x hx => (lay_mem (hs x hx)).1 d2
  have d := dep_all (n := PyData.depthAll ys) (xs := xs) fun x hx => (lay_mem (hs x hx)).2
  exact ⟨canLay_shaped (by simp only [PyData.canLay0]; exact l) (by simp only [PyData.depth]; omega), canLay_shaped (by simp only [PyData.canLay0]; exact l) (by simp only [PyData.depth]; omega)⟩
theorem sizes_eq (s : Str) : (lookD [(.str "front", .int 2), (.str "back", .int 2), (.str "up", .int 2), (.str "down", .int 2), (.str "ungroup", .int 2), (.str "above", .int 3), (.str "below", .int 3), (.str "group", .int 4)] s).getD (.int 0) = .int (if kind s = 0 then 0 else (kind s : Int) + 1) := by
  by_cases h1 : ("front" : Str) = s
  · subst h1; rfl
  by_cases h2 : ("back" : Str) = s
  · subst h2; rfl
  by_cases h3 : ("up" : Str) = s
  · subst h3; rfl
  by_cases h4 : ("down" : Str) = s
  · subst h4; rfl
  by_cases h5 : ("ungroup" : Str) = s
  · subst h5; rfl
  by_cases h6 : ("above" : Str) = s
  · subst h6; rfl
  by_cases h7 : ("below" : Str) = s
  · subst h7; rfl
  by_cases h8 : ("group" : Str) = s
  · subst h8; rfl
  simp [lookD, h1, h2, h3, h4, h5, h6, h7, h8, kind, words1, words2, PyData.eqv]
open Classical in
theorem Fit.lcmd {v : PyData} (h : Fit v) (S : Store) : F__law_good_command [.d v] S = .ok (dB (cmdD v)) S := by
  show endF (g__law_good_command [some (.d v), none, none, none] S) = _
  cases v with
  | tuple ys =>
    cases ys with
    | nil =>
      unfold g__law_good_command
      simp [eqG_sh h.sh shaped_nilT, eqv_nilT, cmdD]
    | cons x r =>
      cases x with
      | str s =>
        have h4 : r.length ≤ 4000 := by
          have := cn_len (.str s :: r)
          have := h.cn
          rw [cnI_tup] at this
          rw [List.length_cons] at *
          omega
        have c1 : DL.cutD (.str s :: r) (some 1) none = r := cut_from (k := 1) (by simp)
        have hk : ∀ b, (b = true ↔ (r.all isName = true ∧ r.Nodup ∧ kind s = r.length ∧ r.length ≠ 0)) → cmdD (.tuple (.str s :: r)) = b := fun b h => by
          unfold cmdD
          cases b with
          | true => exact decide_eq_true (h.mp rfl)
          | false => exact decide_eq_false fun z => by cases h.mpr z
        have z1 := sizes_eq s
        unfold g__law_good_command
        by_cases hs : kind s = r.length ∧ r.length ≠ 0
        · have hz : ((r.length : Int) + 1 != (if kind s = 0 then 0 else (kind s : Int) + 1)) = false := by
            rw [hs.1, if_neg hs.2]
            simp
          have lc : ∀ e, lcD (tgN 3) (some c__law_good_command_1) e__law_good_command_1 [some (.d (.tuple (.str s :: r))), e, some (.d (.list r)), none] r [] S = .ok (.own (r.filter fun x => !isName x)) S := fun e =>
            lcD_filter r (fun d hd => ⟨_, rfl, by unfold c__law_good_command_1; simp [lname_eq], by unfold e__law_good_command_1; simp⟩) (by omega)
          have hf := (shaped_sub (xs := r.filter fun x => !isName x) h.sh fun x hx => List.mem_cons_of_mem _ ((List.mem_filter.mp hx).1)).1
          cases ha : r.all isName with
          | false =>
            rw [hk false (by simp [ha])]
            have hne : (r.filter fun x => !isName x).isEmpty = false := by
              cases q : r.filter fun x => !isName x with
              | cons a l => rfl
              | nil =>
                have := List.filter_eq_nil_iff.mp q
                have : r.all isName = true := List.all_eq_true.mpr fun x hx => by simpa using this x hx
                rw [ha] at this
                cases this
            simp [eqG_sh h.sh shaped_nilT, eqv_nilT, c1, z1, hz, lc, eqG_sh hf shaped_nilL, eqv_nilL, hne]
          | true =>
            obtain ⟨n1, s1, _, s2, s3⟩ := set_len (key_names ha) h4
            have hne : (r.filter fun x => !isName x).isEmpty = true := by
              rw [List.isEmpty_iff]
              exact List.filter_eq_nil_iff.mpr fun x hx => by simp [List.all_eq_true.mp ha x hx]
            rw [hk (n1 == r.length) (by rw [beq_iff_eq, s3]; exact ⟨fun z => ⟨ha, z, hs⟩, fun z => z.2.1⟩)]
            simp [eqG_sh h.sh shaped_nilT, eqv_nilT, c1, z1, hz, lc, eqG_sh hf shaped_nilL, eqv_nilL, hne, s1]
            exact Bool.eq_iff_iff.mpr (by simp; omega)
        · rw [hk false ⟨fun z => (by cases z), fun z => absurd z.2.2 hs⟩]
          have hz : ((r.length : Int) + 1 != (if kind s = 0 then 0 else (kind s : Int) + 1)) = true := by
            rw [bne_iff_ne]
            split <;> omega
          simp [eqG_sh h.sh shaped_nilT, eqv_nilT, c1, z1, hz]
      | _ =>
        unfold g__law_good_command
        simp [eqG_sh h.sh shaped_nilT, eqv_nilT, cmdD]
  | _ =>
    unfold g__law_good_command
    simp [cmdD]
theorem Fit.lscr {v : PyData} (h : Fit v) (S : Store) : F__law_good_script [.d v] S = .ok (dB (scrD v)) S := by
  show endF (g__law_good_script [some (.d v), none] S) = _
  cases v with
  | tuple xs =>
    have hc := h.cn
    rw [cnI_tup] at hc
    have := cn_len xs
    have lc : lcD (tgN 1) (some c__law_good_script_1) e__law_good_script_1 [some (.d (.tuple xs)), none] xs [] S = .ok (.own (xs.filter fun x => !cmdD x)) S :=
      lcD_filter xs (fun d hd => ⟨_, rfl, by unfold c__law_good_script_1; simp [(h.parts d hd).lcmd], by unfold e__law_good_script_1; simp⟩) (by omega)
    have hf := (shaped_sub (xs := xs.filter fun x => !cmdD x) h.sh fun x hx => ((List.mem_filter.mp hx).1)).1
    have he : (xs.filter fun x => !cmdD x).isEmpty = xs.all cmdD := by
      rw [Bool.eq_iff_iff, List.isEmpty_iff, List.filter_eq_nil_iff, List.all_eq_true]
      simp
    unfold g__law_good_script
    by_cases hl : xs.length ≤ 4
    · simp [lwide_eq, isWide, lc, scrD, hl, show (xs.length : Int) ≤ 4 by omega, eqG_sh hf shaped_nilL, eqv_nilL, he]
    · simp [lwide_eq, isWide, lc, scrD, hl, show ¬ (xs.length : Int) ≤ 4 by omega]
  | _ =>
    unfold g__law_good_script
    simp [scrD, lwide_eq, isWide]
/-! ### draws -/
/-- the cell of a source -/
def Drw (l : Nat) (S : Store) : Prop := ∃ a b : Int, S[l]? = some (.lst [.int a, .int b]) ∧ 0 ≤ a ∧ 0 ≤ b ∧ b < 2 ^ 40
theorem drw_set {l : Nat} {S : Store} {a b : Int} {c : Cell} (h : S[l]? = some c) (h1 : 0 ≤ a) (h2 : 0 ≤ b) (h3 : b < 2 ^ 40) : Drw l (S.set l (.lst [.int a, .int b])) := by
  refine ⟨a, b, ?_, h1, h2, h3⟩
  rw [List.getElem?_set_self (List.getElem?_eq_some_iff.mp h).1]
@[simp] theorem setS_ap {i : Nat} {fi fv : DE} {env : DL.Env} {S : Store} : setS i fi fv env S = (fv env S).bindS env fun x S1 => match x.fixed, env[i]? with
  | some (.d d), some (some _) => (fi env S1).bindS env fun y S2 => kPut env i d y S2
  | _, _ => .stuck := rfl
@[simp] theorem kPut_int {env : DL.Env} {i : Nat} {d : PyData} {k : Int} {S : Store} : kPut env i d (.d (.int k)) S = putI env S i k d := rfl
theorem put_ref {env : DL.Env} {i l : Nat} {d : PyData} {k : Int} {S : Store} {xs : List PyData} {j : Nat} (h : env[i]? = some (some (.ref l))) (h2 : S[l]? = some (.lst xs)) (h3 : ixN xs.length k = some j) : putI env S i k d = .next env (S.set l (.lst (xs.set j d))) := by
  unfold putI
  simp only [h, h2, h3]
theorem pick {l : Nat} {S : Store} (h : Drw l S) {m : Nat} (h1 : 0 < m) (h2 : m < 1073741824) : ∃ n S', n < m ∧ F__law_pick [.ref l, .d (.int m)] S = .ok (.d (.int (n : Nat))) S' ∧ Drw l S' := by
  obtain ⟨a, b, e, ha, hb, hb2⟩ := h
  by_cases hp : 0 < a
  · have hr : 0 ≤ a % (m : Int) := Int.emod_nonneg _ (by omega)
    have hr2 : a % (m : Int) < m := Int.emod_lt_of_pos _ (by omega)
    refine ⟨(a % (m : Int)).toNat, S.set l (.lst [.int (a / m), .int b]), by omega, ?_, drw_set e (Int.ediv_nonneg ha (by omega)) hb hb2⟩
    show endF (g__law_pick [some (.ref l), some (.d (.int m)), none] S) = _
    unfold g__law_pick
    have hput := put_ref (env := [some (.ref l), some (.d (.int m)), some (.d (.int (a % m)))]) (i := 0) (l := l) (d := .int (a / m)) (k := 0) (S := S) (xs := [.int a, .int b]) (j := 0) rfl e (by rfl)
    simp [kIx_ref e, hp, h1, show (m : Int) < 1073741824 by omega, h2, hput]
    omega
  · have h3 : 0 ≤ (b * 44497 + 9973) % 2147483647 := Int.emod_nonneg _ (by omega)
    have h4 : (b * 44497 + 9973) % 2147483647 < 2147483647 := Int.emod_lt_of_pos _ (by omega)
    have e2 : (S.set l (.lst [.int a, .int ((b * 44497 + 9973) % 2147483647)]))[l]? = some (.lst [.int a, .int ((b * 44497 + 9973) % 2147483647)]) := by
      rw [List.getElem?_set_self (List.getElem?_eq_some_iff.mp e).1]
    generalize hc : (b * 44497 + 9973) % 2147483647 = c at h3 h4 e2
    have hr : 0 ≤ c * c % 2147483399 / 11 % (m : Int) := Int.emod_nonneg _ (by omega)
    have hr2 : c * c % 2147483399 / 11 % (m : Int) < m := Int.emod_lt_of_pos _ (by omega)
    refine ⟨(c * c % 2147483399 / 11 % (m : Int)).toNat, S.set l (.lst [.int a, .int c]), by omega, ?_, drw_set e ha h3 (by omega)⟩
    show endF (g__law_pick [some (.ref l), some (.d (.int m)), none] S) = _
    unfold g__law_pick
    have hput := put_ref (env := [some (.ref l), some (.d (.int m)), none]) (i := 0) (l := l) (d := .int c) (k := 1) (S := S) (xs := [.int a, .int b]) (j := 1) rfl e (by rfl)
    simp [kIx_ref e, hp, show (-18446744073709551616 : Int) < b by omega, show b < 18446744073709551616 by omega, hc, hput]
    simp [kIx_ref e2, h1, show (-18446744073709551616 : Int) < c by omega, show c < 18446744073709551616 by omega, show (0 : Int) < m by omega]
    omega
end P

set_option Elab.async false
set_option linter.all false
set_option maxRecDepth 100000
set_option maxHeartbeats 4000000
/-! P5: drawn drawings. -/
namespace P
open PySem PySem.Spec PyProof.Rows L2 DL U

@[simp] theorem rng1_ap {f : DE} {env : DL.Env} {S : Store} : rng1 f env S = (f env S).bind rngK := rfl
@[simp] theorem rng2_ap {f g : DE} {env : DL.Env} {S : Store} : rng2 f g env S = (f env S).bind fun x S1 => (g env S1).bind (rng2K x) := rfl
theorem rngK_nat {k : Nat} (h : k ≤ 100000) {S : Store} : rngK (.d (.int (k : Nat))) S = .ok (.d (.list (rngL 0 k))) S := by
  unfold rngK
  simp only
  rw [if_pos (by omega)]
  rfl
@[simp] theorem powG_int {i j : Int} : powG (.int i) (.int j) = if 0 ≤ j ∧ j ≤ 1000000 ∧ i.natAbs < 2 ^ 64 then some (.d (.int (i ^ j.toNat))) else none := rfl
theorem source (ns : List Int) (k : Nat) (hk : k ≤ 1000) (S : Store) : ∃ a b : Int, F__law_source [.scr ns, .d (.int (k : Nat))] S = .ok (.own [.int a, .int b]) S ∧ 0 ≤ a ∧ 0 ≤ b ∧ b < 2 ^ 40 := by
  have main : ∀ n : Int, ∃ a b : Int, (seqS (asgF 3 (modE (addE (addE (mulE (rdE 2) (cE (.int 16807))) (mulE (cE (.int 60919)) (rdE 1))) (cE (.int 31))) (cE (.int 2147481173)))) (seqS (asgF 3 (addE (addE (modE (mulE (rdE 3) (rdE 3)) (cE (.int 2147481151))) (mulE (cE (.int 2)) (rdE 1))) (cE (.int 5)))) (retS (lstE [ifE (geE (rdE 2) (powE (cE (.int 10)) (cE (.int 18)))) (rdE 2) (cE (.int 0)), rdE 3])))) [some (.scr ns), some (.d (.int (k : Nat))), some (.d (.int n)), none] S = .ret (.own [.int a, .int b]) S ∧ 0 ≤ a ∧ 0 ≤ b ∧ b < 2 ^ 40 := by
    intro n
    have h1 : 0 ≤ (n * 16807 + 60919 * (k : Int) + 31) % 2147481173 := Int.emod_nonneg _ (by omega)
    have h2 : (n * 16807 + 60919 * (k : Int) + 31) % 2147481173 < 2147481173 := Int.emod_lt_of_pos _ (by omega)
    simp
    generalize (n * 16807 + 60919 * (k : Int) + 31) % 2147481173 = c at h1 h2 ⊢
    have h3 : 0 ≤ c * c % 2147481151 := Int.emod_nonneg _ (by omega)
    have h4 : c * c % 2147481151 < 2147481151 := Int.emod_lt_of_pos _ (by omega)
    simp [show (-18446744073709551616 : Int) < c by omega, show c < 18446744073709551616 by omega]
    by_cases hn : (1000000000000000000 : Int) ≤ n
    · exact ⟨n, c * c % 2147481151 + 2 * k + 5, by simp [hn], by omega, by omega, by omega⟩
    · exact ⟨0, c * c % 2147481151 + 2 * k + 5, by simp [hn], by omega, by omega, by omega⟩
  by_cases hl : k < ns.length
  · obtain ⟨a, b, e, h⟩ := main ns[k]
    refine ⟨a, b, ?_, h⟩
    show endF (g__law_source [some (.scr ns), some (.d (.int (k : Nat))), none, none] S) = _
    unfold g__law_source
    rw [seqS_ap, asgF_ap, cE_ap]
    simp only [RE.bindS_ok, fixed_d, RS.bind_next]
    rw [seqS_ap]
    have : (ifS (gtE (lenE (rdE 0)) (rdE 1)) (asgF 2 (intE (ixE (rdE 0) (rdE 1)))) nopS) ([some (EV.scr ns), some (EV.d (.int (k : Nat))), none, none].set 2 (some (EV.d (.int 0)))) S = .next [some (.scr ns), some (.d (.int (k : Nat))), some (.d (.int ns[k])), none] S := by
      simp [hl, atI_nat hl]
    rw [this, RS.bind_next, e]
    rfl
  · obtain ⟨a, b, e, h⟩ := main 0
    refine ⟨a, b, ?_, h⟩
    show endF (g__law_source [some (.scr ns), some (.d (.int (k : Nat))), none, none] S) = _
    unfold g__law_source
    rw [seqS_ap, asgF_ap, cE_ap]
    simp only [RE.bindS_ok, fixed_d, RS.bind_next]
    rw [seqS_ap]
    have : (ifS (gtE (lenE (rdE 0)) (rdE 1)) (asgF 2 (intE (ixE (rdE 0) (rdE 1)))) nopS) ([some (EV.scr ns), some (EV.d (.int (k : Nat))), none, none].set 2 (some (EV.d (.int 0)))) S = .next [some (.scr ns), some (.d (.int (k : Nat))), some (.d (.int 0)), none] S := by
      simp [hl]
    rw [this, RS.bind_next, e]
    rfl
theorem drw_new {S : Store} {a b : Int} (h1 : 0 ≤ a) (h2 : 0 ≤ b) (h3 : b < 2 ^ 40) : Drw S.length (S ++ [.lst [.int a, .int b]]) :=
  ⟨a, b, by rw [List.getElem?_append_right (Nat.le_refl _), Nat.sub_self]; rfl, h1, h2, h3⟩
theorem chosen {l : Nat} {S : Store} (h : Drw l S) {xs : List PyData} (h1 : xs ≠ []) (h2 : xs.length < 1000000) : ∃ d S', d ∈ xs ∧ F__law_chosen [.ref l, .d (.list xs)] S = .ok (.d d) S' ∧ Drw l S' := by
  have h0 : 0 < xs.length := List.length_pos_iff.mpr h1
  obtain ⟨n, S', hn, e, h'⟩ := pick h (m := xs.length) h0 (by omega)
  refine ⟨xs[n], S', List.getElem_mem hn, ?_, h'⟩
  show endF (g__law_chosen [some (.ref l), some (.d (.list xs))] S) = _
  unfold g__law_chosen
  simp [e, atI_nat hn]
/-- the three names in some order -/
def perms3 : List (Str × Str × Str) := [("a", "b", "c"), ("a", "c", "b"), ("b", "a", "c"), ("b", "c", "a"), ("c", "a", "b"), ("c", "b", "a")]
theorem three {l : Nat} {S : Store} (h : Drw l S) : ∃ x y z S', (x, y, z) ∈ perms3 ∧ F__law_three [.ref l] S = .ok (.own [.str x, .str y, .str z]) S' ∧ Drw l S' := by
  obtain ⟨d, S', hd, e, h'⟩ := chosen h (xs := [.str "abc", .str "acb", .str "bac", .str "bca", .str "cab", .str "cba"]) (by simp) (by simp)
  have hg : F__law_three [.ref l] S = endF (((RE.ok (.d d) S').bind (vUn listG)).bindS [some (.ref l)] (fun x S1 => .ret x.moved S1)) := by
    show endF (g__law_three [some (.ref l)] S) = _
    unfold g__law_three
    simp [e]
  rw [hg]
  simp only [List.mem_cons, List.not_mem_nil, or_false] at hd
  rcases hd with rfl | rfl | rfl | rfl | rfl | rfl
  · exact ⟨"a", "b", "c", S', by simp [perms3], by rfl, h'⟩
  · exact ⟨"a", "c", "b", S', by simp [perms3], by rfl, h'⟩
  · exact ⟨"b", "a", "c", S', by simp [perms3], by rfl, h'⟩
  · exact ⟨"b", "c", "a", S', by simp [perms3], by rfl, h'⟩
  · exact ⟨"c", "a", "b", S', by simp [perms3], by rfl, h'⟩
  · exact ⟨"c", "b", "a", S', by simp [perms3], by rfl, h'⟩
theorem perm_erase {α : Type} : ∀ (xs : List α) (k : Nat) (h : k < xs.length), (xs[k] :: xs.eraseIdx k).Perm xs
  | x :: xs, 0, _ => by simp
  | x :: xs, k + 1, h => by
    have := perm_erase xs k (by simpa using h)
    simp only [List.getElem_cons_succ, List.eraseIdx_cons_succ]
    exact (List.Perm.swap x (xs[k]'(by simpa using h)) _).trans (this.cons x)
theorem lids_shaped {xs : List PyData} (h : xs.all isThing = true) : SeqAt.shaped (.list xs) = true := (ids_shaped (id_things h)).1
theorem mixed_go {l : Nat} {a b : Option EV} (hr : a = some (.ref l)) : ∀ (n : Nat) (left found : List PyData) (S : Store) (fuel : Nat), left.length = n → n < fuel → left.all isThing = true → found.length + n ≤ 1000 → Drw l S →
    ∃ zs S', (zs.Perm (found ++ left)) ∧ whD c__law_mixed_1 b__law_mixed_1 fuel [a, b, some (.own left), some (.own found)] S = .next [a, b, some (.own []), some (.own zs)] S' ∧ Drw l S'
  | 0, left, found, S, fuel + 1, hl, hf, ht, hb, h => by
    have : left = [] := List.eq_nil_of_length_eq_zero hl
    subst this
    refine ⟨found, S, by simp, ?_, h⟩
    unfold whD
    have : c__law_mixed_1 [a, b, some (.own []), some (.own found)] S = .ok (.d (.bool false)) S := by
      unfold c__law_mixed_1
      simp [neG_sh shaped_nilL shaped_nilL, eqv_nilL]
    rw [this]
    simp
  | n + 1, left, found, S, fuel + 1, hl, hf, ht, hb, h => by
    obtain ⟨k, S', hk, e, h'⟩ := pick h (m := left.length) (by omega) (by omega)
    have hc : c__law_mixed_1 [a, b, some (.own left), some (.own found)] S = .ok (.d (.bool true)) S := by
      unfold c__law_mixed_1
      have : left.isEmpty = false := by
        cases left with
        | nil => simp at hl
        | cons x xs => rfl
      simp [neG_sh (lids_shaped ht) shaped_nilL, eqv_nilL, this]
    have hbd : b__law_mixed_1 [a, b, some (.own left), some (.own found)] S = .next [a, b, some (.own (left.eraseIdx k)), some (.own (found ++ [left[k]]))] S' := by
      unfold b__law_mixed_1
      unfold appPop
      subst hr
      simp [e, ixN_nat hk, hk]
      unfold LIM
      omega
    have hl2 : (left.eraseIdx k).length = n := by rw [List.length_eraseIdx, if_pos hk]; omega
    have pe := perm_erase left k hk
    obtain ⟨zs, S2, p, e2, h2⟩ := mixed_go hr n (left.eraseIdx k) (found ++ [left[k]]) S' fuel hl2 (by omega) (by
      rw [List.all_eq_true] at ht ⊢
      exact fun x hx => ht x (pe.mem_iff.mp (List.mem_cons_of_mem _ hx))) (by simp; omega) h'
    refine ⟨zs, S2, p.trans ?_, ?_, h2⟩
    · rw [List.append_assoc]
      exact List.Perm.append_left _ pe
    · unfold whD
      rw [hc]
      simp only [RE.bindBS_ok, if_true, hbd]
      exact e2
theorem mixed {l : Nat} {S : Store} (h : Drw l S) {xs : List PyData} (ht : xs.all isThing = true) (hl : xs.length ≤ 150) : ∃ zs S', zs.Perm xs ∧ F__law_mixed [.ref l, .d (.list xs)] S = .ok (.own zs) S' ∧ Drw l S' := by
  obtain ⟨zs, S', p, e, h'⟩ := mixed_go (a := some (.ref l)) (b := some (.d (.list xs))) rfl xs.length xs [] S 200 rfl (by omega) ht (by simp; omega) h
  refine ⟨zs, S', by simpa using p, ?_, h'⟩
  show endF (g__law_mixed [some (.ref l), some (.d (.list xs)), none, none] S) = _
  unfold g__law_mixed
  simp [e]
/-! ### a drawn drawing -/
theorem things_wf : ∀ {xs : List PyData}, xs.all isThing = true → wfAll xs = true ∧ idsAll xs = xs ∧ grAll xs = [] ∧ thAll xs = xs ∧ cnAll xs = xs.length
  | [], _ => by simp
  | x :: xs, h => by
    simp only [List.all_cons, Bool.and_eq_true] at h
    obtain ⟨a, b, c, d, e⟩ := things_wf h.2
    have hx : wfI x = true ∧ idsI x = [x] ∧ grI x = [] ∧ thI x = [x] ∧ cnI x = 0 := by
      have hc : cnI x = 0 := by
        cases x with
        | int i => unfold cnI; rfl
        | str i => unfold cnI; rfl
        | _ => cases h.1
      rcases form x with ⟨n, ys, rfl⟩ | ⟨_, e1, e2, e3, e4, _⟩
      · cases h.1
      · exact ⟨e1.trans h.1, e2, e4, e3, hc⟩
    obtain ⟨p, q, r, s, t⟩ := hx
    simp [a, b, c, d, e, p, q, r, s, t]
    omega
theorem all_app (xs ys : List PyData) : wfAll (xs ++ ys) = (wfAll xs && wfAll ys) ∧ idsAll (xs ++ ys) = idsAll xs ++ idsAll ys ∧ grAll (xs ++ ys) = grAll xs ++ grAll ys ∧ thAll (xs ++ ys) = thAll xs ++ thAll ys ∧ cnAll (xs ++ ys) = cnAll xs + cnAll ys ∧ PyData.depthAll (xs ++ ys) = max (PyData.depthAll xs) (PyData.depthAll ys) := by
  induction xs with
  | nil => simp [PyData.depthAll]
  | cons x xs ih =>
    obtain ⟨a, b, c, d, e, f⟩ := ih
    simp [a, b, c, d, e, f, Bool.and_assoc, PyData.depthAll, Nat.max_assoc]
    omega
end P

set_option Elab.async false
set_option linter.all false
set_option maxRecDepth 100000
set_option maxHeartbeats 4000000
/-! P6: drawn drawings. -/
namespace P
open PySem PySem.Spec PyProof.Rows L2 DL U

/-- a well-formed drawing's measures -/
theorem wf_meas : ∀ (n : Nat) {ys : List PyData}, cnAll ys ≤ n → wfAll ys = true → cnAll ys = (thAll ys).length + 3 * (grAll ys).length ∧ PyData.depthAll ys ≤ 2 * dpAll ys ∧ PyData.canLayAll0 ys = true
  | _, [], _, _ => by simp [PyData.depthAll, PyData.canLayAll0]
  | 0, y :: ys, h, _ => by rw [cnAll_cons] at h; omega
  | n + 1, y :: ys, h, w => by
    rw [cnAll_cons] at h
    rw [wfAll_cons, Bool.and_eq_true] at w
    obtain ⟨a, b, c⟩ := wf_meas n (ys := ys) (by omega) w.2
    have one : cnI y + 1 = (thI y).length + 3 * (grI y).length ∧ y.depth ≤ 2 * dpI y ∧ y.canLay0 = true := by
      rcases wf_form w.1 with ⟨m, zs, rfl, hm, hz⟩ | ⟨h1, h2, h3, h4, h5, h6, h7⟩
      · obtain ⟨p, q, r⟩ := wf_meas n (ys := zs) (by simp at h; omega) hz
        obtain ⟨nm, nd⟩ := name_lay hm
        have nd0 : m.depth = 0 := by
          rcases name_cases hm with rfl | rfl | rfl <;> simp [PyData.depth]
        have nc : cnI m = 0 := by
          rcases name_cases hm with rfl | rfl | rfl <;> (unfold cnI; rfl)
        refine ⟨?_, ?_, ?_⟩
        · simp only [cnI_tup, cnAll_cons, cnAll_nil, thI_g, grI_g, List.length_cons]; omega
        · simp only [PyData.depth, PyData.depthAll, dpI_g, nd0]; omega
        · simp [PyData.canLay0, PyData.canLayAll0, nm, r]
      · rw [h4, h5, h6]
        obtain ⟨l1, l2⟩ := id_lay (thing_id h1)
        refine ⟨?_, ?_, l1⟩
        · cases y with
          | int i => unfold cnI; rfl
          | str i => unfold cnI; rfl
          | _ => cases h1
        · cases y with
          | int i => simp [PyData.depth]
          | str i => simp [PyData.depth]
          | _ => cases h1
    obtain ⟨p, q, r⟩ := one
    simp only [cnAll_cons, thAll_cons, grAll_cons, dpAll_cons, List.length_append, PyData.depthAll, PyData.canLayAll0]
    refine ⟨by omega, by omega, by simp [r, c]⟩
/-- a drawing as the laws draw it -/
structure Drawn (most : Nat) (flat : Bool) (ys : List PyData) : Prop where
  wf : wfAll ys = true
  nd : (idsAll ys).Nodup
  th : (thAll ys).length ≤ 3 + most
  gr : (grAll ys).length ≤ 2
  fl : flat = true → grAll ys = []
theorem Drawn.meas {most : Nat} {flat : Bool} {ys : List PyData} (h : Drawn most flat ys) : cnAll ys ≤ 9 + most ∧ PyData.depthAll ys ≤ 4 ∧ PyData.canLayAll0 ys = true ∧ dpAll ys ≤ 2 := by
  obtain ⟨a, b, c⟩ := wf_meas _ (Nat.le_refl (cnAll ys)) h.wf
  obtain ⟨_, _, _, _, d, _⟩ := wf_parts _ (Nat.le_refl (cnAll ys)) h.wf
  have := h.th
  have := h.gr
  exact ⟨by omega, by omega, c, by omega⟩
theorem nums_nodup (n : Nat) (h : n ≤ 100) : ((List.range n).map fun i => PyData.int ((7 * (0 + (i : Nat)) + 3) % 100)).Nodup := by
  rw [List.Nodup, List.pairwise_map]
  refine List.Pairwise.imp_of_mem ?_ (List.nodup_range (n := n))
  intro a b ha hb hne e
  have h1 := List.mem_range.mp ha
  have h2 := List.mem_range.mp hb
  have e2 : (7 * (0 + (a : Int)) + 3) % 100 = (7 * (0 + (b : Int)) + 3) % 100 := PyData.int.inj e
  exact hne (by omega)
theorem range_map {n : Nat} {α : Type} (f : PyData → α) : (rngL 0 n).map f = (List.range n).map fun i => f (.int (0 + (i : Nat))) := by
  unfold rngL
  rw [List.map_map]
  rfl
def abc : List PyData := [.str "a", .str "b", .str "c"]
theorem abc_items : itemsG (.str "abc") = some abc := by rfl
theorem perms_names {x y z : Str} (h : (x, y, z) ∈ perms3) : ([.str x, .str y, .str z] : List PyData).all isName = true ∧ ([.str x, .str y, .str z] : List PyData).Nodup := by
  have key : ∀ p ∈ perms3, isName (.str p.1) = true ∧ isName (.str p.2.1) = true ∧ isName (.str p.2.2) = true ∧ p.1 ≠ p.2.1 ∧ p.1 ≠ p.2.2 ∧ p.2.1 ≠ p.2.2 := by decide +kernel
  obtain ⟨a, b, c, d, e, f⟩ := key _ h
  exact ⟨by simp [a, b, c], by simp [d, e, f]⟩
/-- a group is made of some neighbours -/
theorem group_made {xs : List PyData} {n : PyData} {lo hi : Nat} (hl : lo ≤ hi) (hh : hi ≤ xs.length) : xs.take lo ++ (xs.drop lo).take (hi - lo) ++ xs.drop hi = xs := by
  have : (xs.drop lo).take (hi - lo) ++ xs.drop hi = xs.drop lo := by
    have e : xs.drop hi = (xs.drop lo).drop (hi - lo) := by rw [List.drop_drop]; congr 1; omega
    rw [e, List.take_append_drop]
  rw [List.append_assoc, this, List.take_append_drop]
theorem cut_mid {xs : List PyData} {lo hi : Nat} (hl : lo ≤ hi) (hh : hi ≤ xs.length) : DL.cutD xs (some (lo : Int)) (some (hi : Int)) = (xs.drop lo).take (hi - lo) := by
  unfold DL.cutD
  rw [HT.sIx_nat, HT.sIx_nat, Nat.min_eq_left (show lo ≤ xs.length by omega), Nat.min_eq_left hh]
theorem drawing_loop {l : Nat} {e1 e2 e3 e4 e5 e10 : Option EV} : ∀ (gs : List PyData) (items : List PyData) (e7 e8 e9 : Option EV) (S : Store), gs.all isName = true → wfAll items = true → items.length + gs.length ≤ 1000 → Drw l S →
    ∃ ys S' e7' e8' e9', forD (tgN 7) b__law_drawing_1 gs [some (.ref l), e1, e2, e3, e4, e5, some (.d (.tuple items)), e7, e8, e9, e10] S = .next [some (.ref l), e1, e2, e3, e4, e5, some (.d (.tuple ys)), e7', e8', e9', e10] S' ∧ Drw l S' ∧
      wfAll ys = true ∧ (idsAll ys).Perm (gs ++ idsAll items) ∧ (thAll ys).Perm (thAll items) ∧ (grAll ys).Perm (gs ++ grAll items)
  | [], items, e7, e8, e9, S, _, w, _, h => ⟨items, S, e7, e8, e9, by simp [forD], h, w, List.Perm.refl _, List.Perm.refl _, List.Perm.refl _⟩
  | g :: gs, items, e7, e8, e9, S, hg, w, hl, h => by
    simp only [List.all_cons, Bool.and_eq_true] at hg
    rw [List.length_cons] at hl
    obtain ⟨lo, S1, hlo, p1, h1⟩ := pick h (m := items.length + 1) (by omega) (by omega)
    obtain ⟨k, S2, hk, p2, h2⟩ := pick h1 (m := items.length - lo + 1) (by omega) (by omega)
    have hb : b__law_drawing_1 [some (.ref l), e1, e2, e3, e4, e5, some (.d (.tuple items)), some (.d g), e8, e9, e10] S = .next [some (.ref l), e1, e2, e3, e4, e5, some (.d (.tuple (items.take lo ++ [.tuple [g, .tuple ((items.drop lo).take k)]] ++ items.drop (lo + k)))), some (.d g), some (.d (.int (lo : Nat))), some (.d (.int ((lo + k : Nat) : Int))), e10] S2 := by
      unfold b__law_drawing_1
      have q1 : F__law_pick [.ref l, .d (.int ((items.length : Int) + 1))] S = _ := p1
      have q2 : F__law_pick [.ref l, .d (.int ((items.length : Int) - (lo : Int) + 1))] S1 = .ok (.d (.int (k : Nat))) S2 := by
        have e : ((items.length : Int) - (lo : Int) + 1) = ((items.length - lo + 1 : Nat) : Int) := by omega
        rw [e]
        exact p2
      have c1 : DL.cutD items none (some (lo : Int)) = _ := cut_to (by omega)
      have c2 : DL.cutD items (some (lo : Int)) (some ((lo : Int) + (k : Int))) = _ := cut_mid (lo := lo) (hi := lo + k) (by omega) (by omega)
      have c3 : DL.cutD items (some ((lo : Int) + (k : Int))) none = _ := cut_from (k := lo + k) (by omega)
      rw [Nat.add_sub_cancel_left] at c2
      simp [q1, q2, c1, c2, c3]
      rw [addG_tuple (by simp; omega)]
      simp
      rw [addG_tuple (by simp; omega)]
      simp
    have ee := group_made (xs := items) (n := g) (lo := lo) (hi := lo + k) (by omega) (by omega)
    rw [Nat.add_sub_cancel_left] at ee
    generalize ha : items.take lo = A at ee hb
    generalize hbb : (items.drop lo).take k = B at ee hb
    generalize hc : items.drop (lo + k) = C at ee hb
    subst ee
    simp only [(all_app _ _).1, Bool.and_eq_true] at w
    have w' : wfAll (A ++ [.tuple [g, .tuple B]] ++ C) = true := by
      simp [(all_app _ _).1, w.1.1, w.1.2, w.2, hg.1]
    obtain ⟨ys, S', e7', e8', e9', hf, h', hw, hp1, hp2, hp3⟩ := drawing_loop gs (A ++ [.tuple [g, .tuple B]] ++ C) (some (.d g)) (some (.d (.int (lo : Nat)))) (some (.d (.int ((lo + k : Nat) : Int)))) S2 hg.2 w' (by simp at hl ⊢; omega) h2
    refine ⟨ys, S', e7', e8', e9', ?_, h', hw, ?_, ?_, ?_⟩
    · unfold forD
      simp only [tgN_ap]
      have hset : ([some (.ref l), e1, e2, e3, e4, e5, some (.d (.tuple (A ++ B ++ C))), e7, e8, e9, e10] : DL.Env).set 7 (some (.d g)) = [some (.ref l), e1, e2, e3, e4, e5, some (.d (.tuple (A ++ B ++ C))), some (.d g), e8, e9, e10] := rfl
      rw [hset, hb]
      exact hf
    · refine hp1.trans ?_
      simp only [(all_app _ _).2.1, idsAll_cons, idsI_g, idsAll_nil, List.append_nil, List.cons_append]
      refine List.Perm.trans (List.Perm.append_left gs ?_) List.perm_middle
      have : (idsAll A ++ (g :: idsAll B)).Perm (g :: (idsAll A ++ idsAll B)) := List.perm_middle
      exact this.append_right _
    · refine hp2.trans ?_
      simp only [(all_app _ _).2.2.2.1, thAll_cons, thI_g, thAll_nil, List.append_nil]
      exact List.Perm.refl _
    · refine hp3.trans ?_
      simp only [(all_app _ _).2.2.1, grAll_cons, grI_g, grAll_nil, List.append_nil, List.cons_append]
      refine List.Perm.trans (List.Perm.append_left gs ?_) List.perm_middle
      have : (grAll A ++ (g :: grAll B)).Perm (g :: (grAll A ++ grAll B)) := List.perm_middle
      exact this.append_right _
theorem drawing {l : Nat} {S : Store} (h : Drw l S) {most : Nat} (hm : most ≤ 90) (flat : Bool) : ∃ ys S', Drawn most flat ys ∧ F__law_drawing [.ref l, .d (.int (most : Nat)), .d (.bool flat)] S = .ok (.d (.tuple ys)) S' ∧ Drw l S' := by
  obtain ⟨x, y, z, S1, hp, e1, h1⟩ := three h
  obtain ⟨k1, S2, hk1, e2, h2⟩ := pick h1 (m := 4) (by omega) (by omega)
  obtain ⟨k2, S3, hk2, e3, h3⟩ := pick h2 (m := most + 1) (by omega) (by omega)
  obtain ⟨k3, S4, hk3, e4, h4⟩ := pick h3 (m := 3) (by omega) (by omega)
  obtain ⟨pn, pd⟩ := perms_names hp
  have e2' : F__law_pick [.ref l, .d (.int 4)] S1 = _ := e2
  have e3' : F__law_pick [.ref l, .d (.int ((most : Int) + 1))] S2 = _ := e3
  have e4' : F__law_pick [.ref l, .d (.int 3)] S3 = _ := e4
  have c1 : DL.cutD [.str x, .str y, .str z] none (some (k1 : Int)) = _ := cut_to (k := k1) (by simp; omega)
  generalize hnm : ([.str x, .str y, .str z] : List PyData).take k1 = nm at c1
  have nmn : nm.all isName = true := by
    rw [← hnm, List.all_eq_true]
    exact fun a ha => List.all_eq_true.mp pn a (List.mem_of_mem_take ha)
  have nmd : nm.Nodup := by rw [← hnm]; exact pd.sublist (List.take_sublist _ _)
  have nml : nm.length ≤ 3 := by rw [← hnm, List.length_take]; simp; omega
  generalize hnu : ((List.range k2).map fun i => PyData.int ((7 * (0 + (i : Nat)) + 3) % 100)) = nu
  have lc1 : ∀ E : Nat → Option EV, lcD (tgN 10) none e__law_drawing_1 [E 0, E 1, E 2, E 3, E 4, E 5, E 6, E 7, E 8, E 9, none] (rngL 0 k2) [] S3 = .ok (.own nu) S3 := fun E => by
    have := lcD_map (t := tgN 10) (elt := e__law_drawing_1) (env := [E 0, E 1, E 2, E 3, E 4, E 5, E 6, E 7, E 8, E 9, none]) (S := S3) (f := fun d => match d with | .int i => .int ((7 * i + 3) % 100) | x => x) (rngL 0 k2) (fun d hd => by
      unfold rngL at hd
      obtain ⟨i, _, rfl⟩ := List.mem_map.mp hd
      refine ⟨_, rfl, ?_⟩
      unfold e__law_drawing_1
      simp) (by unfold rngL; simp; omega)
    rw [this, range_map, ← hnu]
  have nut : nu.all isThing = true := by
    rw [← hnu, List.all_eq_true]
    intro a ha
    obtain ⟨i, _, rfl⟩ := List.mem_map.mp ha
    simp only [isThing, Bool.and_eq_true, decide_eq_true_eq]
    omega
  have nud : nu.Nodup := by rw [← hnu]; exact nums_nodup k2 (by omega)
  have nul : nu.length = k2 := by rw [← hnu]; simp
  have nmt : nm.all isThing = true := by
    rw [List.all_eq_true] at nmn ⊢
    exact fun a ha => name_thing (nmn a ha)
  have both : (nm ++ nu).all isThing = true := by simp [nmt, nut]
  have bothd : (nm ++ nu).Nodup := by
    rw [List.nodup_append]
    refine ⟨nmd, nud, fun a ha b hb e => ?_⟩
    subst e
    have hn := List.all_eq_true.mp nmn a ha
    rw [← hnu] at hb
    obtain ⟨i, _, rfl⟩ := List.mem_map.mp hb
    cases hn
  generalize hgr : (abc.filter fun g => (!(nm.any fun z => PyData.eqv z g)) && !flat) = gr
  have lc2 : ∀ E : Nat → Option EV, lcD (tgN 7) (some c__law_drawing_1) e__law_drawing_2 [E 0, E 1, some (.d (.bool flat)), some (.d (.list nm)), E 4, E 5, E 6, none, E 8, E 9, E 10] abc [] S3 = .ok (.own gr) S3 := fun E => by
    rw [← hgr]
    refine lcD_filter abc (fun d hd => ⟨_, rfl, ?_, ?_⟩) (by simp [abc])
    · have hn : isName d = true := by
        simp only [abc, List.mem_cons, List.not_mem_nil, or_false] at hd
        rcases hd with rfl | rfl | rfl <;> rfl
      have hi : inG true d (.list nm) = _ := inG_list (id_shaped (thing_id (name_thing hn))) (lids_shaped nmt)
      rw [if_pos rfl] at hi
      unfold c__law_drawing_1
      cases hq : (nm.any fun z => PyData.eqv z d) <;> simp [hi, hq]
    · unfold e__law_drawing_2
      simp
  have grn : gr.all isName = true := by
    rw [← hgr, List.all_eq_true]
    intro a ha
    have := (List.mem_filter.mp ha).1
    simp only [abc, List.mem_cons, List.not_mem_nil, or_false] at this
    rcases this with rfl | rfl | rfl <;> rfl
  have grd : gr.Nodup := by
    rw [← hgr]
    exact List.Nodup.sublist List.filter_sublist (by simp [abc]; decide +kernel)
  have grx : ∀ a, a ∈ gr → a ∉ nm := fun a ha hm => by
    rw [← hgr] at ha
    have h1 := (List.mem_filter.mp ha).2
    simp only [Bool.and_eq_true, Bool.not_eq_true'] at h1
    have := (any_eqv (thing_key (name_thing (List.all_eq_true.mp nmn a hm))) (key_names nmn)).mpr hm
    rw [h1.1] at this
    cases this
  have c2 : DL.cutD gr none (some (k3 : Int)) = gr.take k3 := by
    unfold DL.cutD
    rw [HT.sIx_nat, HT.sIx_none]
    simp only [Nat.sub_zero, List.drop_zero]
    by_cases hh : k3 ≤ gr.length
    · rw [Nat.min_eq_left hh]
    · rw [Nat.min_eq_right (by omega), List.take_of_length_le (Nat.le_refl _), List.take_of_length_le (by omega)]
  generalize hgs : gr.take k3 = gs at c2
  have gsn : gs.all isName = true := by
    rw [← hgs, List.all_eq_true]
    exact fun a ha => List.all_eq_true.mp grn a (List.mem_of_mem_take ha)
  have gsd : gs.Nodup := by rw [← hgs]; exact grd.sublist (List.take_sublist _ _)
  have gsl : gs.length ≤ 2 := by rw [← hgs, List.length_take]; omega
  have gsx : ∀ a, a ∈ gs → a ∉ nm := fun a ha => grx a (by rw [← hgs] at ha; exact List.mem_of_mem_take ha)
  obtain ⟨zs, S5, zp, e5, h5⟩ := mixed h4 both (by simp; omega)
  have zt : zs.all isThing = true := by
    rw [List.all_eq_true] at both ⊢
    exact fun a ha => both a (zp.mem_iff.mp ha)
  obtain ⟨zw, zi, zg, zth, zc⟩ := things_wf zt
  have zl := zp.length_eq
  rw [List.length_append] at zl
  obtain ⟨ys, S6, e7', e8', e9', hf, h6, yw, yi, yt, yg⟩ := drawing_loop (e1 := some (.d (.int (most : Nat)))) (e2 := some (.d (.bool flat))) (e3 := some (.d (.list nm))) (e4 := some (.d (.list nu))) (e5 := some (.d (.list gs))) (e10 := none) gs zs none none none S5 gsn zw (by omega) h5
  refine ⟨ys, S6, ⟨yw, ?_, ?_, ?_, fun hfl => ?_⟩, ?_, h6⟩
  · rw [yi.nodup_iff, zi, List.nodup_append]
    refine ⟨gsd, zp.nodup_iff.mpr bothd, fun a ha b hb e => ?_⟩
    subst e
    have hm := zp.mem_iff.mp hb
    rcases List.mem_append.mp hm with q | q
    · exact gsx a ha q
    · have hn := List.all_eq_true.mp gsn a ha
      rw [← hnu] at q
      obtain ⟨i, _, rfl⟩ := List.mem_map.mp q
      cases hn
  · have := yt.length_eq
    rw [zth] at this
    omega
  · have := yg.length_eq
    rw [zg, List.append_nil] at this
    omega
  · have := yg
    rw [zg, List.append_nil] at this
    have hg0 : gs = [] := by
      rw [← hgs, ← hgr, hfl]
      simp
    rw [hg0] at this
    exact List.Perm.eq_nil this
  · show endF (g__law_drawing [some (.ref l), some (.d (.int (most : Nat))), some (.d (.bool flat)), none, none, none, none, none, none, none, none] S) = _
    have l1 := fun a b c d e f g h i j => lc1 (fun n => match n with | 0 => a | 1 => b | 2 => c | 3 => d | 4 => e | 5 => f | 6 => g | 7 => h | 8 => i | _ => j)
    have l2 := fun a b e f g i j k => lc2 (fun n => match n with | 0 => a | 1 => b | 4 => e | 5 => f | 6 => g | 8 => i | 9 => j | _ => k)
    simp only at l1 l2
    unfold g__law_drawing
    simp [e1, e2', c1, e3', l1, abc_items, l2, e4', c2, addG_list (show nm.length + nu.length ≤ 100000 by omega), e5, hf, rngK_nat (show k2 ≤ 100000 by omega)]
end P

set_option Elab.async false
set_option linter.all false
set_option maxRecDepth 100000
set_option maxHeartbeats 4000000
/-! P7: drawn scripts, odd values. -/
namespace P
open PySem PySem.Spec PyProof.Rows L2 DL U

open Classical in
theorem cmd_mk {s : Str} {r : List PyData} (h : r.all isName = true) (nd : r.Nodup) (hk : kind s = r.length) (h0 : r.length ≠ 0) : cmdD (.tuple (.str s :: r)) = true := by
  unfold cmdD
  exact decide_eq_true ⟨h, nd, hk, h0⟩
theorem perms_three {x y z : Str} (h : (x, y, z) ∈ perms3) : ([.str x] : List PyData).all isName = true ∧ ([.str x] : List PyData).Nodup ∧ ([.str x, .str y] : List PyData).all isName = true ∧ ([.str x, .str y] : List PyData).Nodup ∧ ([.str x, .str y, .str z] : List PyData).all isName = true ∧ ([.str x, .str y, .str z] : List PyData).Nodup := by
  obtain ⟨a, b⟩ := perms_names h
  simp only [List.all_cons, List.all_nil, Bool.and_true, Bool.and_eq_true] at a ⊢
  refine ⟨a.1, by simp, ⟨a.1, a.2.1⟩, b.sublist (by simp), ⟨a.1, a.2.1, a.2.2⟩, b⟩
theorem command {l : Nat} {S : Store} (h : Drw l S) : ∃ c S', cmdD c = true ∧ F__law_command [.ref l] S = .ok (.d c) S' ∧ Drw l S' := by
  obtain ⟨x, y, z, S1, hp, e1, h1⟩ := three h
  obtain ⟨n, S2, hn, e2, h2⟩ := pick h1 (m := 12) (by omega) (by omega)
  obtain ⟨p1, p2, p3, p4, p5, p6⟩ := perms_three hp
  have e2' : F__law_pick [.ref l, .d (.int 12)] S1 = _ := e2
  have go : ∀ c, (g__law_command [some (.ref l), none, none, none, none] S = .ret (.d c) S2) → cmdD c = true → ∃ c S', cmdD c = true ∧ F__law_command [.ref l] S = .ok (.d c) S' ∧ Drw l S' := fun c e hc => by
    refine ⟨c, S2, hc, ?_, h2⟩
    show endF (g__law_command [some (.ref l), none, none, none, none] S) = _
    rw [e]
    rfl
  by_cases a : n < 6
  · have hw : ∃ w, ([.str "front", .str "back", .str "up", .str "down", .str "up", .str "ungroup"] : List PyData)[n]? = some (.str w) ∧ kind w = 1 := by
      have : n = 0 ∨ n = 1 ∨ n = 2 ∨ n = 3 ∨ n = 4 ∨ n = 5 := by omega
      rcases this with rfl | rfl | rfl | rfl | rfl | rfl <;> exact ⟨_, rfl, by decide +kernel⟩
    obtain ⟨w, hw1, hw2⟩ := hw
    have hat : atI ([.str "front", .str "back", .str "up", .str "down", .str "up", .str "ungroup"] : List PyData) (n : Int) = some (.str w) := by
      unfold atI
      rw [ixN_nat (by simp; omega)]
      exact hw1
    refine go (.tuple [.str w, .str x]) ?_ (cmd_mk p1 p2 hw2 (by simp))
    unfold g__law_command
    simp [e1, e2', hat, show (n : Int) < 6 by omega]
  · by_cases b : n < 9
    · have hw : ∃ w, ([.str "above", .str "below", .str "above"] : List PyData)[n - 6]? = some (.str w) ∧ kind w = 2 := by
        have : n = 6 ∨ n = 7 ∨ n = 8 := by omega
        rcases this with rfl | rfl | rfl <;> exact ⟨_, rfl, by decide +kernel⟩
      obtain ⟨w, hw1, hw2⟩ := hw
      have hat : atI ([.str "above", .str "below", .str "above"] : List PyData) ((n : Int) - 6) = some (.str w) := by
        have e : (n : Int) - 6 = ((n - 6 : Nat) : Int) := by omega
        rw [e]
        unfold atI
        rw [ixN_nat (by simp; omega)]
        exact hw1
      refine go (.tuple [.str w, .str x, .str y]) ?_ (cmd_mk p3 p4 hw2 (by simp))
      unfold g__law_command
      simp [e1, e2', hat, show ¬ (n : Int) < 6 by omega, show (n : Int) < 9 by omega]
    · refine go (.tuple [.str "group", .str x, .str y, .str z]) ?_ (cmd_mk p5 p6 (show kind "group" = 3 by decide +kernel) (by simp))
      unfold g__law_command
      simp [e1, e2', show ¬ (n : Int) < 6 by omega, show ¬ (n : Int) < 9 by omega]
/-- a comprehension whose elements are drawn -/
theorem lc_drawn {l n : Nat} {is : Nat} {elt : DE} {env : DL.Env} {p : PyData → Prop} (hel : ∀ (d : PyData) (S : Store), Drw l S → ∃ v y S', elt (env.set is (some (.d d))) S = .ok v S' ∧ v.fixed = some (.d y) ∧ p y ∧ Drw l S') : ∀ (xs acc : List PyData) (S : Store), Drw l S → (∀ y, y ∈ acc → p y) → acc.length + xs.length ≤ 1000 →
    ∃ ys S', lcD (tgN is) none elt env xs acc S = .ok (.own ys) S' ∧ (∀ y, y ∈ ys → p y) ∧ ys.length = acc.length + xs.length ∧ Drw l S'
  | [], acc, S, h, ha, _ => ⟨acc, S, rfl, ha, rfl, h⟩
  | d :: xs, acc, S, h, ha, hl => by
    rw [List.length_cons] at hl
    obtain ⟨v, y, S1, e1, e2, e3, h1⟩ := hel d S h
    obtain ⟨ys, S', e4, e5, e6, h2⟩ := lc_drawn (n := n) hel xs (acc ++ [y]) S1 h1 (fun z hz => by
      rcases List.mem_append.mp hz with q | q
      · exact ha z q
      · simp at q; rw [q]; exact e3) (by simp; omega)
    refine ⟨ys, S', ?_, e5, by rw [e6]; simp; omega, h2⟩
    unfold lcD
    simp only [tgN_ap, tstD_none, bE_d, e1, e2]
    rw [if_pos (by unfold LIM; omega)]
    exact e4
theorem rngL_len {lo : Int} {n : Nat} : (rngL lo n).length = n := by unfold rngL; simp
theorem script {l : Nat} {S : Store} (h : Drw l S) {most : Nat} (hm : most ≤ 100) : ∃ cs S', (∀ c, c ∈ cs → cmdD c = true) ∧ cs.length ≤ most ∧ F__law_script [.ref l, .d (.int (most : Nat))] S = .ok (.d (.tuple cs)) S' ∧ Drw l S' := by
  obtain ⟨n, S1, hn, e1, h1⟩ := pick h (m := most + 1) (by omega) (by omega)
  have e1' : F__law_pick [.ref l, .d (.int ((most : Int) + 1))] S = _ := e1
  obtain ⟨cs, S2, e2, a, b, h2⟩ := lc_drawn (l := l) (n := n) (is := 2) (elt := e__law_script_1) (env := [some (.ref l), some (.d (.int (most : Nat))), none]) (p := fun c => cmdD c = true) (fun d S h => by
    obtain ⟨c, S', q, e, h'⟩ := command h
    exact ⟨.d c, c, S', by unfold e__law_script_1; simp [e], rfl, q, h'⟩) (rngL 0 n) [] S1 h1 (by simp) (by rw [rngL_len]; simp; omega)
  rw [rngL_len] at b
  refine ⟨cs, S2, a, by simp at b; omega, ?_, h2⟩
  show endF (g__law_script [some (.ref l), some (.d (.int (most : Nat))), none] S) = _
  unfold g__law_script
  simp [e1', rngK_nat (show n ≤ 100000 by omega), e2]
/-! ### odd values -/
/-- no dict, so large, so deep -/
structure Lim (c d : Nat) (v : PyData) : Prop where
  lay : v.canLay0 = true
  cn : cnI v ≤ c
  dp : v.depth ≤ d
theorem Lim.mono {c d c' d' : Nat} {v : PyData} (h : Lim c d v) (h1 : c ≤ c') (h2 : d ≤ d') : Lim c' d' v := ⟨h.lay, Nat.le_trans h.cn h1, Nat.le_trans h.dp h2⟩
structure LimA (c d : Nat) (xs : List PyData) : Prop where
  lay : PyData.canLayAll0 xs = true
  cn : cnAll xs ≤ c
  dp : PyData.depthAll xs ≤ d
theorem LimA.tup {c d : Nat} {xs : List PyData} (h : LimA c d xs) : Lim c (d + 1) (.tuple xs) := ⟨by simp only [PyData.canLay0]; exact h.lay, by rw [cnI_tup]; exact h.cn, by simp only [PyData.depth]; have := h.dp; omega⟩
theorem LimA.lst {c d : Nat} {xs : List PyData} (h : LimA c d xs) : Lim c (d + 1) (.list xs) := ⟨by simp only [PyData.canLay0]; exact h.lay, by rw [cnI_lst]; exact h.cn, by simp only [PyData.depth]; have := h.dp; omega⟩
theorem Lim.untup {c d : Nat} {xs : List PyData} (h : Lim c d (.tuple xs)) : LimA c (d - 1) xs ∧ 1 ≤ d := by
  obtain ⟨a, b, e⟩ := h
  simp only [PyData.canLay0] at a
  rw [cnI_tup] at b
  simp only [PyData.depth] at e
  exact ⟨⟨a, b, by omega⟩, by omega⟩
theorem canLay_app (xs ys : List PyData) : PyData.canLayAll0 (xs ++ ys) = (PyData.canLayAll0 xs && PyData.canLayAll0 ys) := by
  induction xs with
  | nil => simp [PyData.canLayAll0]
  | cons x xs ih => simp [PyData.canLayAll0, ih, Bool.and_assoc]
theorem LimA.app {c c' d : Nat} {xs ys : List PyData} (h : LimA c d xs) (h2 : LimA c' d ys) : LimA (c + c') d (xs ++ ys) := by
  obtain ⟨_, _, _, _, q1, q2⟩ := all_app xs ys
  exact ⟨by rw [canLay_app, h.lay, h2.lay]; rfl, by rw [q1]; have := h.cn; have := h2.cn; omega, by rw [q2]; exact Nat.max_le.mpr ⟨h.dp, h2.dp⟩⟩
theorem LimA.parts {c d : Nat} {xs ys : List PyData} (h : LimA c d (xs ++ ys)) : LimA c d xs ∧ LimA c d ys ∧ cnAll xs + cnAll ys ≤ c := by
  obtain ⟨_, _, _, _, q1, q2⟩ := all_app xs ys
  obtain ⟨a, b, e⟩ := h
  rw [canLay_app, Bool.and_eq_true] at a
  rw [q1] at b
  rw [q2, Nat.max_le] at e
  exact ⟨⟨a.1, by omega, e.1⟩, ⟨a.2, by omega, e.2⟩, b⟩
theorem LimA.one {c d : Nat} {x : PyData} (h : Lim c d x) : LimA (c + 1) d [x] := ⟨by simp [PyData.canLayAll0, h.lay], by simp; exact h.cn, by simp only [PyData.depthAll]; have := h.dp; omega⟩
theorem LimA.mono {c d c' d' : Nat} {xs : List PyData} (h : LimA c d xs) (h1 : c ≤ c') (h2 : d ≤ d') : LimA c' d' xs := ⟨h.lay, Nat.le_trans h.cn h1, Nat.le_trans h.dp h2⟩
theorem LimA.all {c d : Nat} : ∀ {xs : List PyData}, (∀ x, x ∈ xs → Lim c d x) → LimA ((c + 1) * xs.length) d xs
  | [], _ => ⟨by simp [PyData.canLayAll0], by simp, by simp [PyData.depthAll]⟩
  | x :: xs, h => by
    have := (LimA.one (h x List.mem_cons_self)).app (LimA.all fun y hy => h y (List.mem_cons_of_mem _ hy))
    refine this.mono ?_ (Nat.le_refl _)
    rw [List.length_cons, Nat.mul_succ]
    omega
theorem LimA.mem {c d : Nat} {xs : List PyData} (h : LimA c d xs) {x : PyData} (hx : x ∈ xs) : Lim c d x ∧ cnI x + 1 ≤ c := by
  obtain ⟨a, b⟩ := lay_mem hx
  have := cn_mem hx
  have := h.cn
  have := h.dp
  exact ⟨⟨a h.lay, by omega, by omega⟩, by omega⟩
theorem lim_of {c d : Nat} {v : PyData} (h : v.canLay0 = true) (h2 : decide (cnI v ≤ c) = true) (h3 : decide (v.depth ≤ d) = true) : Lim c d v := ⟨h, of_decide_eq_true h2, of_decide_eq_true h3⟩
def plain : List PyData := [.none, .bool true, .bool false, .int 0, .int 1, .int 5, .int 100, .int (-2), .int 1000000000000, .str "", .str "a", .str "ab", .str "d", .str "front", .str "A", .str "z z", .tuple [], .list [], .tuple [.str "a"]]
theorem plain_lim : ∀ x, x ∈ plain → Lim 1 1 x := by
  have : ∀ x, x ∈ plain → (x.canLay0 && (decide (cnI x ≤ 1) && decide (x.depth ≤ 1))) = true := by
    rw [← List.all_eq_true]
    decide +kernel
  intro x hx
  have := this x hx
  simp only [Bool.and_eq_true] at this
  exact lim_of this.1 this.2.1 this.2.2
def anyC : Nat → Nat
  | 0 => 1
  | d + 1 => (anyC d + 1) * 4
theorem any_value {l : Nat} : ∀ (f d : Nat) (S : Store), d < f → d ≤ 3 → Drw l S → ∃ v S', Lim (anyC d) (d + 1) v ∧ F__law_any_value f [.ref l, .d (.int (d : Nat))] S = .ok (.d v) S' ∧ Drw l S'
  | 0, d, S, h, _, _ => by omega
  | f + 1, d, S, hf, hd, h => by
    obtain ⟨n, S1, hn, e1, h1⟩ := pick h (m := 8) (by omega) (by omega)
    have e1' : F__law_pick [.ref l, .d (.int 8)] S = _ := e1
    have ac : 1 ≤ anyC d := by
      cases d with
      | zero => exact Nat.le_refl _
      | succ d => unfold anyC; omega
    by_cases hc : d < 1 ∨ n < 5
    · obtain ⟨v, S2, hv, e2, h2⟩ := chosen h1 (xs := plain) (by simp [plain]) (by simp [plain])
      refine ⟨v, S2, (plain_lim v hv).mono ac (by omega), ?_, h2⟩
      show endF (g__law_any_value (F__law_any_value f) [some (.ref l), some (.d (.int (d : Nat))), none, none, none, none] S) = _
      unfold plain at e2
      unfold g__law_any_value
      rcases hc with hc | hc
      · have : d = 0 := by omega
        subst this
        simp [e1', e2]
      · simp [e1', e2, show (n : Int) < 5 by omega]
    · obtain ⟨k, S2, hk, e2, h2⟩ := pick h1 (m := 5) (by omega) (by omega)
      have e2' : F__law_pick [.ref l, .d (.int 5)] S1 = _ := e2
      cases d with
      | zero => omega
      | succ d =>
        obtain ⟨ys, S3, e3, q1, q2, h3⟩ := lc_drawn (l := l) (n := k) (is := 5) (elt := e__law_any_value_1 (F__law_any_value f)) (env := [some (.ref l), some (.d (.int ((d + 1 : Nat) : Int))), some (.d (.list plain)), some (.d (.int (n : Nat))), none, none]) (p := fun v => Lim (anyC d) (d + 1) v) (fun x S h => by
          obtain ⟨v, S', q, e, h'⟩ := any_value f d S (by omega) (by omega) h
          refine ⟨.d v, v, S', ?_, rfl, q, h'⟩
          unfold e__law_any_value_1
          simp [e]) (rngL 0 k) [] S2 h2 (by simp) (by rw [rngL_len]; simp; omega)
        rw [rngL_len] at q2
        have la := LimA.all q1
        have lb : LimA ((anyC d + 1) * 4) (d + 1) ys := la.mono (Nat.mul_le_mul_left _ (by simp at q2; omega)) (Nat.le_refl _)
        unfold plain at e3
        simp only [Int.natCast_add, Int.cast_ofNat_Int] at e3
        have z1 : ¬ (d : Int) + 1 < 1 := by omega
        have z2 : ¬ (n : Int) < 5 := by omega
        have z3 := rngK_nat (S := S2) (show k ≤ 100000 by omega)
        cases h5 : ((n : Int) == 5) with
        | true =>
          refine ⟨.list ys, S3, lb.lst, ?_, h3⟩
          show endF (g__law_any_value (F__law_any_value f) [some (.ref l), some (.d (.int ((d + 1 : Nat) : Int))), none, none, none, none] S) = _
          unfold g__law_any_value
          simp [e1', e2', z1, z2, z3, e3, h5]
          try simp [e2', z3, e3, h5]
        | false =>
          refine ⟨.tuple ys, S3, lb.tup, ?_, h3⟩
          show endF (g__law_any_value (F__law_any_value f) [some (.ref l), some (.d (.int ((d + 1 : Nat) : Int))), none, none, none, none] S) = _
          unfold g__law_any_value
          simp [e1', e2', z1, z2, z3, e3, h5]
          try simp [e2', z3, e3, h5]
end P

set_option Elab.async false
set_option linter.all false
set_option maxRecDepth 100000
set_option maxHeartbeats 4000000
/-! P8: values that are a little wrong. -/
namespace P
open PySem PySem.Spec PyProof.Rows L2 DL U

theorem LimA.take {c d : Nat} {xs : List PyData} (h : LimA c d xs) (n : Nat) : LimA c d (xs.take n) := by
  rw [← List.take_append_drop n xs] at h
  exact h.parts.1
theorem LimA.drop {c d : Nat} {xs : List PyData} (h : LimA c d xs) (n : Nat) : LimA c d (xs.drop n) := by
  rw [← List.take_append_drop n xs] at h
  exact h.parts.2.1
theorem LimA.rev {c d : Nat} : ∀ {xs : List PyData}, LimA c d xs → LimA c d xs.reverse
  | [], h => h
  | x :: xs, h => by
    obtain ⟨p, q, r⟩ := LimA.parts (xs := [x]) (ys := xs) h
    have a : LimA (cnAll xs) d xs := ⟨q.lay, Nat.le_refl _, q.dp⟩
    have b : LimA (cnAll [x]) d [x] := ⟨p.lay, Nat.le_refl _, p.dp⟩
    rw [List.reverse_cons]
    exact (a.rev.app b).mono (by omega) (Nat.le_refl _)
theorem cut_lim {c d : Nat} {xs : List PyData} (h : LimA c d xs) (lo hi : Option Int) : LimA c d (DL.cutD xs lo hi) := (h.drop _).take _
@[simp] theorem revG_list {xs : List PyData} : revG (.list xs) = some (.own xs.reverse) := rfl
def near : List PyData := [.str "a", .str "b", .str "c", .str "d", .str "front", .str "up", .str "above", .str "group", .str "ungroup", .tuple [.str "a", .tuple []], .tuple [.str "b", .tuple [.int 7, .int 8]], .tuple [.str "c", .tuple [.int 9]], .none, .int 0, .int 1, .int 2, .int 99, .int 100, .tuple [], .list []]
theorem near_lim : ∀ x, x ∈ near → Lim 36 3 x := by
  have : ∀ x, x ∈ near → (x.canLay0 && (decide (cnI x ≤ 36) && decide (x.depth ≤ 3))) = true := by
    rw [← List.all_eq_true]
    decide +kernel
  intro x hx
  have := this x hx
  simp only [Bool.and_eq_true] at this
  exact lim_of this.1 this.2.1 this.2.2
theorem put_own {env : DL.Env} {i : Nat} {d : PyData} {k : Int} {S : Store} {xs : List PyData} {j : Nat} (h : env[i]? = some (some (.own xs))) (h3 : ixN xs.length k = some j) : putI env S i k d = .next (env.set i (some (.own (xs.set j d)))) S := by
  unfold putI
  simp only [h, h3]
theorem set_lim {c c' d : Nat} {xs : List PyData} (h : LimA c d xs) {v : PyData} (hv : Lim c' d v) (k : Nat) : LimA (c + c' + 1) d (xs.set k v) := by
  by_cases hk : k < xs.length
  · rw [List.set_eq_take_append_cons_drop, if_pos hk]
    have e : xs = xs.take k ++ xs.drop k := (List.take_append_drop k xs).symm
    have e2 : xs.drop k = xs[k] :: xs.drop (k + 1) := List.drop_eq_getElem_cons hk
    rw [e2] at e
    have h2 := h
    rw [e] at h2
    obtain ⟨p, q, r⟩ := h2.parts
    obtain ⟨p2, q2, r2⟩ := LimA.parts (xs := [xs[k]]) q
    have a : LimA (cnAll (xs.take k)) d (xs.take k) := ⟨p.lay, Nat.le_refl _, p.dp⟩
    have b : LimA (cnAll (xs.drop (k + 1))) d (xs.drop (k + 1)) := ⟨q2.lay, Nat.le_refl _, q2.dp⟩
    have := (a.app ((LimA.one hv).app b))
    refine this.mono ?_ (Nat.le_refl _)
    rw [cnAll_cons] at r
    omega
  · rw [List.set_eq_of_length_le (by omega)]
    exact h.mono (by omega) (Nat.le_refl _)
theorem lim_shapedL {c d : Nat} {xs : List PyData} (h : LimA c d xs) (hd : d ≤ 60) : SeqAt.shaped (.list xs) = true :=
  canLay_shaped (by simp only [PyData.canLay0]; exact h.lay) (by simp only [PyData.depth]; have := h.dp; omega)
theorem variant {l : Nat} : ∀ (f deep : Nat) (c D : Nat) (xs : List PyData) (S : Store), deep < f → c ≤ 10000 → 1 ≤ D → D ≤ 50 → LimA c (D - 1) xs → Drw l S →
    ∃ ev v S', Lim (3 * c + 40) (max D (deep + 4)) v ∧ F__law_variant f [.ref l, .d (.tuple xs), .d (.int (deep : Nat))] S = .ok ev S' ∧ ev.fixed = some (.d v) ∧ Drw l S'
  | 0, deep, c, D, xs, S, h, _, _, _, _, _ => by omega
  | f + 1, deep, c, D, xs, S, hf, hc, hD1, hD, hx, h => by
    have sh := lim_shapedL hx (by omega)
    have xl := cn_len xs
    have xc := hx.cn
    cases xs with
    | nil =>
      obtain ⟨v, S1, hv, e1, h1⟩ := any_value (l := l) 6 1 S (by omega) (by omega) h
      have e1' : F__law_any_value 6 [.ref l, .d (.int 1)] S = _ := e1
      refine ⟨.d (.tuple [v]), .tuple [v], S1, (LimA.one hv).tup.mono (by simp [anyC]) (by omega), ?_, rfl, h1⟩
      show endF (g__law_variant (F__law_variant f) [some (.ref l), some (.d (.tuple [])), some (.d (.int (deep : Nat))), none, none, none, none, none] S) = _
      unfold g__law_variant
      simp [eqG_sh shaped_nilL shaped_nilL, eqv_nilL, e1']
    | cons x0 xr =>
      generalize hxs : x0 :: xr = xs at *
      have hne : xs.isEmpty = false := by rw [← hxs]; rfl
      have hpos : 0 < xs.length := by rw [← hxs]; simp
      obtain ⟨k, S1, hk, e1, h1⟩ := pick h (m := xs.length) hpos (by omega)
      obtain ⟨w, S2, hw, e2, h2⟩ := pick h1 (m := 9) (by omega) (by omega)
      have e2' : F__law_pick [.ref l, .d (.int 9)] S1 = _ := e2
      have ea : atI xs (k : Int) = some xs[k] := atI_nat hk
      obtain ⟨hxk, hxk2⟩ := hx.mem (List.getElem_mem hk)
      have c1 : DL.cutD xs none (some (k : Int)) = _ := cut_to (by omega)
      have c2 : DL.cutD xs (some ((k : Int) + 1)) none = _ := cut_from (k := k + 1) (by omega)
      have c3 : DL.cutD xs none (some ((k : Int) + 1)) = _ := cut_to (k := k + 1) (by omega)
      have c4 : DL.cutD xs (some (k : Int)) none = _ := cut_from (k := k) (by omega)
      have ltk : LimA c (D - 1) (xs.take k) := hx.take _
      have ldk : LimA c (D - 1) (xs.drop (k + 1)) := hx.drop _
      -- what is left behind the first statements
      have start : ∀ r, (seqS (ifS (andE (isiE "tuple" (rdE 6)) (andE (gtE (rdE 2) (cE (.int 0))) (gtE (rdE 5) (cE (.int 2))))) (retS (addE (addE (tupOfE (slE (rdE 3) none (some (rdE 4)))) (tupE [callE (F__law_variant f) (asL [rdE 0, rdE 6, subE (rdE 2) (cE (.int 1))])])) (tupOfE (slE (rdE 3) (some (addE (rdE 4) (cE (.int 1)))) none)))) (nopS)) (seqS (ifS (eqE (rdE 5) (cE (.int 0))) (retS (tupOfE (addE (slE (rdE 3) none (some (rdE 4))) (slE (rdE 3) (some (addE (rdE 4) (cE (.int 1)))) none)))) (nopS)) (seqS (ifS (eqE (rdE 5) (cE (.int 1))) (retS (tupOfE (addE (slE (rdE 3) none (some (addE (rdE 4) (cE (.int 1))))) (slE (rdE 3) (some (rdE 4)) none)))) (nopS)) (seqS (ifS (eqE (rdE 5) (cE (.int 2))) (retS (tupOfE (addE (addE (slE (rdE 3) none (some (rdE 4))) (revE (slE (rdE 3) (some (rdE 4)) (some (addE (rdE 4) (cE (.int 2))))))) (slE (rdE 3) (some (addE (rdE 4) (cE (.int 2)))) none)))) (nopS)) (seqS (ifS (eqE (rdE 5) (cE (.int 3))) (retS (rdE 3)) (nopS)) (seqS (ifS (ltE (rdE 5) (cE (.int 6))) (setS 3 (rdE 4) (callE (F__law_any_value 6) (asL [rdE 0, cE (.int 2)]))) (seqS (asgF 7 (lstE [cE (.str ("a" : Str)), cE (.str ("b" : Str)), cE (.str ("c" : Str)), cE (.str ("d" : Str)), cE (.str ("front" : Str)), cE (.str ("up" : Str)), cE (.str ("above" : Str)), cE (.str ("group" : Str)), cE (.str ("ungroup" : Str)), tupE [cE (.str ("a" : Str)), tupE []], tupE [cE (.str ("b" : Str)), tupE [cE (.int 7), cE (.int 8)]], tupE [cE (.str ("c" : Str)), tupE [cE (.int 9)]]])) (setS 3 (rdE 4) (callE (F__law_chosen) (asL [rdE 0, addE (rdE 7) (lstE [cE .none, cE (.int 0), cE (.int 1), cE (.int 2), cE (.int 99), cE (.int 100), tupE [], lstE []])]))))) (retS (tupOfE (rdE 3)))))))))
          [some (.ref l), some (.d (.tuple xs)), some (.d (.int (deep : Nat))), some (.own xs), some (.d (.int (k : Nat))), some (.d (.int (w : Nat))), some (.d xs[k]), none] S2 = r →
          F__law_variant (f + 1) [.ref l, .d (.tuple xs), .d (.int (deep : Nat))] S = endF r := fun r hr => by
        show endF (g__law_variant (F__law_variant f) [some (.ref l), some (.d (.tuple xs)), some (.d (.int (deep : Nat))), none, none, none, none, none] S) = _
        unfold g__law_variant
        rw [seqS_ap, asgO_ap]
        simp only [RE1_ap, rdE_ap, List.getElem?_cons_succ, List.getElem?_cons_zero, read_d, RE.bind_ok, vUn_ap, view_d, listG_tuple, toRE_some, RE.bindS_ok, kept_own, RS.bind_next, List.set_cons_succ, List.set_cons_zero]
        rw [seqS_ap]
        have s1 : (ifS (eqE (rdE 3) (lstE [])) (retS (tupE [callE (F__law_any_value 6) (asL [rdE 0, cE (.int 1)])])) (nopS)) [some (.ref l), some (.d (.tuple xs)), some (.d (.int (deep : Nat))), some (.own xs), none, none, none, none] S = .next [some (.ref l), some (.d (.tuple xs)), some (.d (.int (deep : Nat))), some (.own xs), none, none, none, none] S := by
          simp [eqG_sh sh shaped_nilL, eqv_nilL, hne]
        rw [s1, RS.bind_next, seqS_ap]
        have s2 : (parO 4 5 (callE (F__law_pick) (asL [rdE 0, lenE (rdE 3)])) (callE (F__law_pick) (asL [rdE 0, cE (.int 9)]))) [some (.ref l), some (.d (.tuple xs)), some (.d (.int (deep : Nat))), some (.own xs), none, none, none, none] S = .next [some (.ref l), some (.d (.tuple xs)), some (.d (.int (deep : Nat))), some (.own xs), some (.d (.int (k : Nat))), some (.d (.int (w : Nat))), none, none] S2 := by
          simp [e1, e2']
        rw [s2, RS.bind_next, seqS_ap]
        have s3 : (asgF 6 (ixE (rdE 3) (rdE 4))) [some (.ref l), some (.d (.tuple xs)), some (.d (.int (deep : Nat))), some (.own xs), some (.d (.int (k : Nat))), some (.d (.int (w : Nat))), none, none] S2 = .next [some (.ref l), some (.d (.tuple xs)), some (.d (.int (deep : Nat))), some (.own xs), some (.d (.int (k : Nat))), some (.d (.int (w : Nat))), some (.d xs[k]), none] S2 := by
          simp [ea]
        rw [s3, RS.bind_next, hr]
      have fin : ∀ (ev : EV) (v : PyData) (S' : Store), Lim (3 * c + 40) (max D (deep + 4)) v → F__law_variant (f + 1) [.ref l, .d (.tuple xs), .d (.int (deep : Nat))] S = .ok ev S' → ev.fixed = some (.d v) → Drw l S' →
        ∃ ev v S', Lim (3 * c + 40) (max D (deep + 4)) v ∧ F__law_variant (f + 1) [.ref l, .d (.tuple xs), .d (.int (deep : Nat))] S = .ok ev S' ∧ ev.fixed = some (.d v) ∧ Drw l S' := fun ev v S' a b c d => ⟨ev, v, S', a, b, c, d⟩
      by_cases hrec : isTup xs[k] = true ∧ 0 < deep ∧ 2 < w
      · obtain ⟨r1, r2, r3⟩ := hrec
        obtain ⟨ys, ey⟩ : ∃ ys, xs[k] = .tuple ys := by
          cases q : xs[k] with
          | tuple ys => exact ⟨ys, rfl⟩
          | _ => rw [q] at r1; cases r1
        cases deep with
        | zero => omega
        | succ deep =>
          rw [ey] at hxk hxk2
          obtain ⟨ly, ly1⟩ := (show Lim (cnI (.tuple ys)) (D - 1) (.tuple ys) from ⟨hxk.lay, Nat.le_refl _, hxk.dp⟩).untup
          obtain ⟨ev, v, S3, hv, e3, e4, h3⟩ := variant f deep (cnI (.tuple ys)) (D - 1) ys S2 (by omega) (by omega) (by omega) (by omega) ly h2
          refine fin (.d (.tuple (xs.take k ++ [v] ++ xs.drop (k + 1)))) (.tuple (xs.take k ++ [v] ++ xs.drop (k + 1))) S3 ?_ ((start _ rfl).trans ?_) rfl h3
          · have e : xs = xs.take k ++ (xs[k] :: xs.drop (k + 1)) := by
              rw [← List.drop_eq_getElem_cons hk, List.take_append_drop]
            have h5 := hx
            rw [e] at h5
            obtain ⟨p, q, r⟩ := h5.parts
            rw [cnAll_cons, ey] at r
            obtain ⟨p2, q2, r2⟩ := LimA.parts (xs := [xs[k]]) q
            have a : LimA (cnAll (xs.take k)) (max (D - 1) (deep + 4)) (xs.take k) := ⟨p.lay, Nat.le_refl _, by have := p.dp; omega⟩
            have b : LimA (cnAll (xs.drop (k + 1))) (max (D - 1) (deep + 4)) (xs.drop (k + 1)) := ⟨q2.lay, Nat.le_refl _, by have := q2.dp; omega⟩
            exact (((a.app (LimA.one hv)).app b).tup).mono (by omega) (by omega)
          · have l1 : (xs.take k).length ≤ 10000 := by rw [List.length_take]; omega
            have l2 : (xs.drop (k + 1)).length ≤ 10000 := by rw [List.length_drop]; omega
            have a1 : addG (.tuple (xs.take k)) (.tuple [v]) = _ := addG_tuple (by simp only [List.length_singleton]; omega)
            have a2 : addG (.tuple (xs.take k ++ [v])) (.tuple (xs.drop (k + 1))) = _ := addG_tuple (by simp only [List.length_singleton, List.length_append]; omega)
            have d1 : ((deep : Int) + 1 - 1) = (deep : Int) := by omega
            have d2 : (0 : Int) < (deep : Int) + 1 := by omega
            have d3 : (2 : Int) < (w : Int) := by omega
            simp only [List.append_assoc] at a2
            simp [ey, d1, d2, d3, c1, c2, e3, e4, a1, a2]
            try simp [ey, d1, d2, d3, c1, c2, e3, e4, a1, a2]
      · have skip : (ifS (andE (isiE "tuple" (rdE 6)) (andE (gtE (rdE 2) (cE (.int 0))) (gtE (rdE 5) (cE (.int 2))))) (retS (addE (addE (tupOfE (slE (rdE 3) none (some (rdE 4)))) (tupE [callE (F__law_variant f) (asL [rdE 0, rdE 6, subE (rdE 2) (cE (.int 1))])])) (tupOfE (slE (rdE 3) (some (addE (rdE 4) (cE (.int 1)))) none)))) (nopS)) [some (.ref l), some (.d (.tuple xs)), some (.d (.int (deep : Nat))), some (.own xs), some (.d (.int (k : Nat))), some (.d (.int (w : Nat))), some (.d xs[k]), none] S2 = .next [some (.ref l), some (.d (.tuple xs)), some (.d (.int (deep : Nat))), some (.own xs), some (.d (.int (k : Nat))), some (.d (.int (w : Nat))), some (.d xs[k]), none] S2 := by
          by_cases t1 : isTup xs[k] = true
          · have t2 : tyD xs[k] = "tuple" := by
              cases q : xs[k] with
              | tuple ys => rfl
              | _ => rw [q] at t1; cases t1
            by_cases t3 : 0 < deep
            · have t4 : ¬ 2 < w := fun z => hrec ⟨t1, t3, z⟩
              simp [t2, t3, show ¬ (2 : Int) < (w : Int) by omega]
            · simp [t2, t3]
          · have t2 : ¬ tyD xs[k] = "tuple" := by
              cases q : xs[k] with
              | tuple ys => rw [q] at t1; exact absurd rfl t1
              | _ => simp
            have t3 : (tyD xs[k] == "tuple") = false := by rw [beq_eq_false_iff_ne]; exact t2
            simp [t2, t3]
        have l1 : (xs.take k).length ≤ 10000 := by rw [List.length_take]; omega
        have l2 : (xs.drop (k + 1)).length ≤ 10000 := by rw [List.length_drop]; omega
        have l3 : (xs.take (k + 1)).length ≤ 10000 := by rw [List.length_take]; omega
        have l4 : (xs.drop k).length ≤ 10000 := by rw [List.length_drop]; omega
        have wc : w = 0 ∨ w = 1 ∨ w = 2 ∨ w = 3 ∨ w = 4 ∨ w = 5 ∨ 6 ≤ w := by omega
        have change : ∀ (v : PyData) (S' : Store), Lim 36 3 v → Lim (3 * c + 40) (max D (deep + 4)) (.tuple (xs.set k v)) := fun v S' hv => by
          have := set_lim (hx.mono (Nat.le_refl c) (show D - 1 ≤ max (D - 1) 3 by omega)) (hv.mono (Nat.le_refl _) (show 3 ≤ max (D - 1) 3 by omega)) k
          exact this.tup.mono (by omega) (by omega)
        have old : w = 4 ∨ w = 5 → ∃ ev v S', Lim (3 * c + 40) (max D (deep + 4)) v ∧ F__law_variant (f + 1) [.ref l, .d (.tuple xs), .d (.int (deep : Nat))] S = .ok ev S' ∧ ev.fixed = some (.d v) ∧ Drw l S' := fun hw => by
          obtain ⟨v, S3, hv, e3, h3⟩ := any_value (l := l) 6 2 S2 (by omega) (by omega) h2
          have e3' : F__law_any_value 6 [.ref l, .d (.int 2)] S2 = _ := e3
          refine fin (.d (.tuple (xs.set k v))) _ S3 (change v S3 (hv.mono (by decide) (by omega))) ((start _ rfl).trans ?_) rfl h3
          have hput := fun env h => put_own (env := env) (i := 3) (d := v) (k := (k : Int)) (S := S3) (xs := xs) (j := k) h (ixN_nat hk)
          have hp2 := hput [some (.ref l), some (.d (.tuple xs)), some (.d (.int (deep : Nat))), some (.own xs), some (.d (.int (k : Nat))), some (.d (.int (w : Nat))), some (.d xs[k]), none] rfl
          rw [seqS_ap, skip, RS.bind_next]
          rcases hw with rfl | rfl
          · simp at hp2
            simp [e3', hp2]
          · simp at hp2
            simp [e3', hp2]
        rcases wc with rfl | rfl | rfl | rfl | rfl | rfl | hw6
        · refine fin (.d (.tuple (xs.take k ++ xs.drop (k + 1)))) _ S2 ((ltk.app ldk).tup.mono (by omega) (by omega)) ((start _ rfl).trans ?_) rfl h2
          rw [seqS_ap, skip, RS.bind_next]
          simp [c1, c2, addG_list (show (xs.take k).length + (xs.drop (k + 1)).length ≤ 100000 by omega)]
        · refine fin (.d (.tuple (xs.take (k + 1) ++ xs.drop k))) _ S2 (((hx.take _).app (hx.drop _)).tup.mono (by omega) (by omega)) ((start _ rfl).trans ?_) rfl h2
          rw [seqS_ap, skip, RS.bind_next]
          simp [c3, c4, addG_list (show (xs.take (k + 1)).length + (xs.drop k).length ≤ 100000 by omega)]
        · have m1 := cut_lim hx (some (k : Int)) (some ((k : Int) + 2))
          have m2 := cut_lim hx (some ((k : Int) + 2)) none
          have m3 := cn_len (DL.cutD xs (some (k : Int)) (some ((k : Int) + 2)))
          have m4 := cn_len (DL.cutD xs (some ((k : Int) + 2)) none)
          have m5 := m1.cn
          have m6 := m2.cn
          have a1 : addG (.list (xs.take k)) (.list (DL.cutD xs (some (k : Int)) (some ((k : Int) + 2))).reverse) = _ := addG_list (by rw [List.length_reverse]; omega)
          have a2 : addG (.list (xs.take k ++ (DL.cutD xs (some (k : Int)) (some ((k : Int) + 2))).reverse)) (.list (DL.cutD xs (some ((k : Int) + 2)) none)) = _ := addG_list (by rw [List.length_append, List.length_reverse]; omega)
          refine fin (.d (.tuple (xs.take k ++ (DL.cutD xs (some (k : Int)) (some ((k : Int) + 2))).reverse ++ DL.cutD xs (some ((k : Int) + 2)) none))) _ S2 (((ltk.app m1.rev).app m2).tup.mono (by omega) (by omega)) ((start _ rfl).trans ?_) rfl h2
          rw [seqS_ap, skip, RS.bind_next]
          simp [c1, a1, a2]
        · refine fin (.own xs) (.list xs) S2 (hx.lst.mono (by omega) (by omega)) ((start _ rfl).trans ?_) rfl h2
          rw [seqS_ap, skip, RS.bind_next]
          simp
        · exact old (.inl rfl)
        · exact old (.inr rfl)
        · obtain ⟨v, S3, hv, e3, h3⟩ := chosen h2 (xs := near) (by simp [near]) (by simp [near])
          refine fin (.d (.tuple (xs.set k v))) _ S3 (change v S3 (near_lim v hv)) ((start _ rfl).trans ?_) rfl h3
          unfold near at e3
          have w0 : ((w : Int) == 0) = false := by rw [beq_eq_false_iff_ne]; omega
          have w1 : ((w : Int) == 1) = false := by rw [beq_eq_false_iff_ne]; omega
          have w2 : ((w : Int) == 2) = false := by rw [beq_eq_false_iff_ne]; omega
          have w3 : ((w : Int) == 3) = false := by rw [beq_eq_false_iff_ne]; omega
          have w6 : ¬ (w : Int) < 6 := by omega
          have hput := fun env h => put_own (env := env) (i := 3) (d := v) (k := (k : Int)) (S := S3) (xs := xs) (j := k) h (ixN_nat hk)
          have hp2 := fun e7 => hput [some (.ref l), some (.d (.tuple xs)), some (.d (.int (deep : Nat))), some (.own xs), some (.d (.int (k : Nat))), some (.d (.int (w : Nat))), some (.d xs[k]), e7] rfl
          rw [seqS_ap, skip, RS.bind_next]
          simp at hp2
          simp [w0, w1, w2, w3, w6, addG_list, e3, hp2]
end P

set_option Elab.async false
set_option linter.all false
set_option maxRecDepth 100000
set_option maxHeartbeats 4000000
/-! P9: the law k01. -/
namespace P
open PySem PySem.Spec PyProof.Rows L2 DL U

theorem written_ok (ns : List Int) : (forS (itE (call0E (F__law_written))) (tgT [1, 2, 3, 4]) (b_law_1)) [some (.scr ns), none, none, none, none, none, none, none, none, none, none, none] [] =
    .next [some (.scr ns), some (.d (.list [.str "up", .str "a"])), some (.d (.bool false)), some (.d (.bool false)), some (.d (.bool false)), none, none, none, none, none, none, none] [] := by
  kernel_rfl
theorem last_ok (env : DL.Env) (S : Store) : (retS (andE (notE (callE (F_is_script) (asL [mulE (tupE [tupE [cE (.str ("up" : Str)), cE (.str ("a" : Str))]]) (cE (.int 5))]))) (callE (F_is_script) (asL [mulE (tupE [tupE [cE (.str ("up" : Str)), cE (.str ("a" : Str))]]) (cE (.int 4))])))) env S = .ret (.d (.bool true)) S := by
  kernel_rfl
theorem flat_th : ∀ {ys : List PyData}, wfAll ys = true → (grAll ys).isEmpty = true → thAll ys = ys
  | [], _, _ => by simp
  | y :: ys, w, h => by
    rw [wfAll_cons, Bool.and_eq_true] at w
    rw [grAll_cons, List.isEmpty_iff, List.append_eq_nil_iff] at h
    rw [thAll_cons, flat_th w.2 (by rw [h.2]; rfl)]
    rcases wf_form w.1 with ⟨m, zs, rfl, hm, hz⟩ | ⟨h1, h2, h3, h4, h5, h6, h7⟩
    · rw [grI_g] at h
      cases h.1
    · rw [h4]
      rfl
theorem check {v : PyData} (h : Fit2 v) (e0 e2 e3 e4 e5 e6 e7 e8 e9 e10 e11 : Option EV) (S : Store) : ∃ e2' e3', b_law_3 [e0, some (.d v), e2, e3, e4, e5, e6, e7, e8, e9, e10, e11] S = .next [e0, some (.d v), e2', e3', e4, e5, e6, e7, e8, e9, e10, e11] S := by
  have q1 := h.good S
  have q2 := drawing_eq v S h.cn
  have q3 := plain_eq v S h.cn
  have q4 := h.toFit.cmd S
  have q5 := h.toFit.lcmd S
  have q6 := h.toFit.script S
  have q7 := h.toFit.lscr S
  cases hg : goodD v with
  | false =>
    rw [hg] at q1 q2 q3
    refine ⟨some (.d (.bool false)), some (.d (.bool false)), ?_⟩
    unfold b_law_3
    simp [q1, q2, q3, q4, q5, q6, q7, lbool_eq]
  | true =>
    rw [hg] at q1 q2 q3
    obtain ⟨ys, rfl, w, nd, hl⟩ := good_parts hg
    have hc := h.cn
    rw [cnI_tup] at hc
    have hd := h.dp
    simp only [PyData.depth] at hd
    obtain ⟨a1, a2, a3, a4, a5, a6, a7⟩ := wf_parts _ (Nat.le_refl (cnAll ys)) w
    have hi := lids_eq S 40 ys (by omega) (by omega)
    rw [a7] at hi
    have dl := wf_dp _ (Nat.le_refl (cnAll ys))
    have ht := lthings_eq S 40 ys w (by omega) (by omega)
    have l1 := a4.length_eq
    rw [List.length_append] at l1
    have hflat : (if ((idsAll ys).length : Int) == (ys.length : Int) then RE.ok (.d (.bool (((thAll ys).length : Int) == (ys.length : Int)))) S else .ok (.d (.bool false)) S) = .ok (.d (.bool (grAll ys).isEmpty)) S := by
      cases hq : (grAll ys).isEmpty with
      | true =>
        have := flat_th w hq
        rw [List.isEmpty_iff] at hq
        rw [hq] at l1
        rw [this] at l1 ⊢
        simp at l1
        simp [l1]
      | false =>
        have : (grAll ys).length ≠ 0 := fun z => by
          rw [List.eq_nil_of_length_eq_zero z] at hq
          cases hq
        by_cases hx : (idsAll ys).length = ys.length
        · have h2 : (((thAll ys).length : Int) == (ys.length : Int)) = false := by
            rw [beq_eq_false_iff_ne]; omega
          simp [hx, h2]
        · have h2 : (((idsAll ys).length : Int) == (ys.length : Int)) = false := by
            rw [beq_eq_false_iff_ne]; omega
          simp [h2]
    refine ⟨some (.d (.bool true)), some (.d (.bool (grAll ys).isEmpty)), ?_⟩
    have q3' : F_is_plain [.d (.tuple ys)] S = .ok (.d (.bool (grAll ys).isEmpty)) S := by
      rw [q3]
      rfl
    have hfl : (andE (rdE 2) (andE (eqE (lenE (callE (F__law_ids 40) (asL [rdE 1]))) (lenE (rdE 1))) (eqE (lenE (callE (F__law_things 40) (asL [rdE 1]))) (lenE (rdE 1))))) [e0, some (.d (.tuple ys)), some (.d (.bool true)), e3, e4, e5, e6, e7, e8, e9, e10, e11] S = .ok (.d (.bool (grAll ys).isEmpty)) S := by
      rw [← hflat]
      simp [hi, ht]
    unfold b_law_3
    rw [seqS_ap, asgF_ap]
    have s1 : callE F__law_good_drawing (asL [rdE 1]) [e0, some (.d (.tuple ys)), e2, e3, e4, e5, e6, e7, e8, e9, e10, e11] S = .ok (.d (.bool true)) S := by simp [q1]
    rw [s1]
    simp only [RE.bindS_ok, fixed_d, RS.bind_next, List.set_cons_succ, List.set_cons_zero]
    rw [seqS_ap, asgF_ap, hfl]
    simp only [RE.bindS_ok, fixed_d, RS.bind_next, List.set_cons_succ, List.set_cons_zero]
    simp [q2, q3', q4, q5, q6, q7, lbool_eq]
theorem fit2 {c d : Nat} {v : PyData} (h : Lim c d v) (hc : c ≤ 4000) (hd : d ≤ 39) : Fit2 v := ⟨⟨canLay_shaped h.lay (by have := h.dp; omega), by have := h.cn; omega⟩, by have := h.dp; omega⟩
theorem Drawn.lim {most : Nat} {flat : Bool} {ys : List PyData} (h : Drawn most flat ys) : LimA (9 + most) 4 ys := by
  obtain ⟨a, b, c, _⟩ := h.meas
  exact ⟨c, a, b⟩
theorem kind_word {s : Str} (h : kind s ≠ 0) : s ∈ ([("front" : Str), "back", "up", "down", "ungroup", "above", "below", "group"] : List Str) := by
  by_cases h1 : ("front" : Str) = s
  · subst h1; simp
  by_cases h2 : ("back" : Str) = s
  · subst h2; simp
  by_cases h3 : ("up" : Str) = s
  · subst h3; simp
  by_cases h4 : ("down" : Str) = s
  · subst h4; simp
  by_cases h5 : ("ungroup" : Str) = s
  · subst h5; simp
  by_cases h6 : ("above" : Str) = s
  · subst h6; simp
  by_cases h7 : ("below" : Str) = s
  · subst h7; simp
  by_cases h8 : ("group" : Str) = s
  · subst h8; simp
  exact absurd (by simp [h1, h2, h3, h4, h5, h6, h7, h8, kind, words1, words2, PyData.eqv]) h
theorem kind_le (s : Str) : kind s ≤ 3 := by
  unfold kind
  split
  · omega
  · split
    · omega
    · split <;> omega
theorem word_lim {s : Str} (h : kind s ≠ 0) : Lim 0 0 (.str s) := by
  have : ∀ s, s ∈ ([("front" : Str), "back", "up", "down", "ungroup", "above", "below", "group"] : List Str) → ((PyData.str s).canLay0 && (decide (cnI (.str s) ≤ 0) && decide ((PyData.str s).depth ≤ 0))) = true := by
    rw [← List.all_eq_true]
    decide +kernel
  have := this s (kind_word h)
  simp only [Bool.and_eq_true] at this
  exact lim_of this.1 this.2.1 this.2.2
theorem name_lim {x : PyData} (h : isName x = true) : Lim 0 0 x := by
  rcases name_cases h with rfl | rfl | rfl <;> exact lim_of (by decide +kernel) (by decide +kernel) (by decide +kernel)
open Classical in
theorem cmd_parts {v : PyData} (h : cmdD v = true) : ∃ s r, v = .tuple (.str s :: r) ∧ r.all isName = true ∧ r.Nodup ∧ kind s = r.length ∧ r.length ≠ 0 := by
  unfold cmdD at h
  split at h
  · exact ⟨_, _, rfl, of_decide_eq_true h⟩
  · cases h
theorem cmd_lim {v : PyData} (h : cmdD v = true) : Lim 4 1 v := by
  obtain ⟨s, r, rfl, h1, h2, h3, h4⟩ := cmd_parts h
  have hk := kind_le s
  have a := LimA.all (c := 0) (d := 0) (xs := .str s :: r) fun x hx => by
    rcases List.mem_cons.mp hx with e | e
    · rw [e]; exact word_lim (by omega)
    · exact name_lim (List.all_eq_true.mp h1 x e)
  exact a.tup.mono (by rw [List.length_cons]; omega) (Nat.le_refl _)
theorem script_lim {cs : List PyData} (h : ∀ c, c ∈ cs → cmdD c = true) (hl : cs.length ≤ 4) : LimA 20 1 cs :=
  (LimA.all fun c hc => cmd_lim (h c hc)).mono (by omega) (Nat.le_refl _)
/-- the values that the law looks at -/
def Seen (v : PyData) : Prop := Lim 400 9 v
theorem values_loop {l : Nat} (hd hs : List PyData) (hD : LimA 21 4 hd) (hS : LimA 20 1 hs) (e0 e1 e2 e3 e4 e5 : Option EV) : ∀ (xs : List PyData) (vals : List PyData) (e10 e11 : Option EV) (S : Store), (∀ x, x ∈ xs → ∃ i : Int, x = .int i) → Drw l S → (∀ v, v ∈ vals → Seen v) → vals.length + 2 * xs.length ≤ 1000 →
    ∃ vals' e10' e11' S', forD (tgN 10) b_law_2 xs [e0, e1, e2, e3, e4, e5, some (.ref l), some (.d (.tuple hd)), some (.d (.tuple hs)), some (.own vals), e10, e11] S = .next [e0, e1, e2, e3, e4, e5, some (.ref l), some (.d (.tuple hd)), some (.d (.tuple hs)), some (.own vals'), e10', e11'] S' ∧
      Drw l S' ∧ (∀ v, v ∈ vals' → Seen v) ∧ vals'.length ≤ 1000
  | [], vals, e10, e11, S, _, h, hv, hl => ⟨vals, e10, e11, S, by simp [forD], h, hv, by simpa using hl⟩
  | x :: xs, vals, e10, e11, S, hx, h, hv, hl => by
    rw [List.length_cons] at hl
    obtain ⟨i, rfl⟩ := hx x List.mem_cons_self
    have app : ∀ (n : Nat), n ≤ 1000 → n < LIM := fun n hn => by unfold LIM; omega
    -- the first
    have first : ∃ ev v S1, Lim 103 8 v ∧ (callE (F__law_variant 6) (asL [rdE 6, ifE (ltE (rdE 10) (cE (.int 9))) (rdE 7) (rdE 8), cE (.int 4)])) [e0, e1, e2, e3, e4, e5, some (.ref l), some (.d (.tuple hd)), some (.d (.tuple hs)), some (.own vals), some (.d (.int i)), e11] S = .ok ev S1 ∧ ev.fixed = some (.d v) ∧ Drw l S1 := by
      by_cases h9 : i < 9
      · obtain ⟨ev, v, S1, a, b, c, d⟩ := variant (l := l) 6 4 21 5 hd S (by omega) (by omega) (by omega) (by omega) hD h
        have b' : F__law_variant 6 [.ref l, .d (.tuple hd), .d (.int 4)] S = _ := b
        exact ⟨ev, v, S1, a, by simp [h9, b'], c, d⟩
      · obtain ⟨ev, v, S1, a, b, c, d⟩ := variant (l := l) 6 4 20 5 hs S (by omega) (by omega) (by omega) (by omega) (hS.mono (Nat.le_refl _) (by omega)) h
        have b' : F__law_variant 6 [.ref l, .d (.tuple hs), .d (.int 4)] S = _ := b
        exact ⟨ev, v, S1, a.mono (by omega) (Nat.le_refl _), by simp [h9, b'], c, d⟩
    obtain ⟨ev, v, S1, q1, q2, q3, q4⟩ := first
    -- the whole turn
    have turn : ∃ more e11' S2, (∀ w, w ∈ more → Seen w) ∧ more.length ≤ 2 ∧ b_law_2 [e0, e1, e2, e3, e4, e5, some (.ref l), some (.d (.tuple hd)), some (.d (.tuple hs)), some (.own vals), some (.d (.int i)), e11] S = .next [e0, e1, e2, e3, e4, e5, some (.ref l), some (.d (.tuple hd)), some (.d (.tuple hs)), some (.own (vals ++ more)), some (.d (.int i)), e11'] S2 ∧ Drw l S2 := by
      have sv : Seen v := q1.mono (by omega) (by omega)
      by_cases ht : isTup v = true
      · obtain ⟨ys, rfl⟩ : ∃ ys, v = .tuple ys := by
          cases v with
          | tuple ys => exact ⟨ys, rfl⟩
          | _ => cases ht
        obtain ⟨n, S2, hn, p1, h2⟩ := pick q4 (m := 3) (by omega) (by omega)
        have p1' : F__law_pick [.ref l, .d (.int 3)] S1 = _ := p1
        cases hz : ((n : Int) == 0) with
        | false =>
          refine ⟨[.tuple ys], some (.d (.tuple ys)), S2, fun w hw => (by simp at hw; rw [hw]; exact sv), by simp, ?_, h2⟩
          unfold b_law_2
          rw [seqS_ap, asgF_ap, q2]
          simp [q3, appS, app vals.length (by omega), p1', hz]
        | true =>
          obtain ⟨ly, _⟩ := q1.untup
          obtain ⟨ev2, v2, S3, a, b, c, d⟩ := variant (l := l) 6 4 103 8 ys S2 (by omega) (by omega) (by omega) (by omega) ly h2
          have b' : F__law_variant 6 [.ref l, .d (.tuple ys), .d (.int 4)] S2 = _ := b
          refine ⟨[.tuple ys, v2], some (.d (.tuple ys)), S3, fun w hw => ?_, by simp, ?_, d⟩
          · simp at hw
            rcases hw with rfl | rfl
            · exact sv
            · exact a.mono (by omega) (by omega)
          · unfold b_law_2
            rw [seqS_ap, asgF_ap, q2]
            simp [q3, appS, app vals.length (by omega), p1', hz]
            simp [appS, b', c, app (vals.length + 1) (by omega)]
      · have t2 : (tyD v == "tuple") = false := by
          cases v with
          | tuple ys => exact absurd rfl ht
          | _ => simp
        refine ⟨[v], some (.d v), S1, fun w hw => (by simp at hw; rw [hw]; exact sv), by simp, ?_, q4⟩
        unfold b_law_2
        rw [seqS_ap, asgF_ap, q2]
        have t3 : ¬ tyD v = "tuple" := fun z => by rw [z] at t2; simp at t2
        simp [q3, appS, app vals.length (by omega), t2, t3]
    obtain ⟨more, e11', S2, m1, m2, m3, m4⟩ := turn
    obtain ⟨vals', e10'', e11'', S', r1, r2, r3, r4⟩ := values_loop hd hs hD hS e0 e1 e2 e3 e4 e5 xs (vals ++ more) (some (.d (.int i))) e11' S2 (fun x hx' => hx x (List.mem_cons_of_mem _ hx')) m4 (fun w hw => by
      rcases List.mem_append.mp hw with z | z
      · exact hv w z
      · exact m1 w z) (by rw [List.length_append]; omega)
    refine ⟨vals', e10'', e11'', S', ?_, r2, r3, r4⟩
    unfold forD
    simp only [tgN_ap, List.set_cons_succ, List.set_cons_zero, m3]
    exact r1
theorem checks {S : Store} (e0 e4 e5 e6 e7 e8 e9 e10 e11 : Option EV) : ∀ (xs : List PyData) (e1 e2 e3 : Option EV), (∀ v, v ∈ xs → Seen v) → ∃ e1' e2' e3', forD (tgN 1) b_law_3 xs [e0, e1, e2, e3, e4, e5, e6, e7, e8, e9, e10, e11] S = .next [e0, e1', e2', e3', e4, e5, e6, e7, e8, e9, e10, e11] S
  | [], e1, e2, e3, _ => ⟨e1, e2, e3, by simp [forD]⟩
  | v :: xs, e1, e2, e3, h => by
    obtain ⟨e2', e3', q⟩ := check (fit2 (h v List.mem_cons_self) (by omega) (by omega)) e0 e2 e3 e4 e5 e6 e7 e8 e9 e10 e11 S
    obtain ⟨a, b, c, r⟩ := checks e0 e4 e5 e6 e7 e8 e9 e10 e11 xs (some (.d v)) e2' e3' fun w hw => h w (List.mem_cons_of_mem _ hw)
    refine ⟨a, b, c, ?_⟩
    unfold forD
    simp only [tgN_ap, List.set_cons_succ, List.set_cons_zero, q]
    exact r
theorem k01_turn (ns : List Int) (k : Nat) (hk : k ≤ 1000) (e1 e2 e3 e4 e6 e7 e8 e9 e10 e11 : Option EV) (S : Store) : ∃ a1 a2 a3 a4 a5 a6 a7 a8 a9 a10 a11 S', b_law_4 [some (.scr ns), e1, e2, e3, e4, some (.d (.int (k : Nat))), e6, e7, e8, e9, e10, e11] S = .next [some (.scr ns), a1, a2, a3, a4, a5, a6, a7, a8, a9, a10, a11] S' := by
  obtain ⟨a, b, q1, q2, q3, q4⟩ := source ns k hk S
  have h0 := drw_new (S := S) q2 q3 q4
  generalize hS0 : (S ++ [Cell.lst [.int a, .int b]] : Store) = S0 at h0
  generalize hl : S.length = l at h0
  obtain ⟨ys, S1, dr, d2, h1⟩ := drawing h0 (most := 12) (by omega) false
  obtain ⟨cs, S2, c1, c2, c3, h2⟩ := script h1 (most := 4) (by omega)
  obtain ⟨v, S3, v1, v2, h3⟩ := any_value (l := l) 6 3 S2 (by omega) (by omega) h2
  have d2' : F__law_drawing [.ref l, .d (.int 12), .d (.bool false)] S0 = _ := d2
  have c3' : F__law_script [.ref l, .d (.int 4)] S1 = _ := c3
  have v2' : F__law_any_value 6 [.ref l, .d (.int 3)] S2 = _ := v2
  have ly := dr.lim
  have lc := script_lim c1 c2
  have yl := cn_len ys
  have yc := ly.cn
  -- the values ahead of the loop
  have la : addG (.tuple ys) (.tuple ys) = _ := addG_tuple (by omega)
  have lb : addG (.list [.tuple ys, .list ys, .tuple cs, .list cs, .tuple (ys ++ ys), .none, .tuple [], .str "a"]) (.list cs) = _ := addG_list (by simp; omega)
  have sv : ∀ w, w ∈ ([.tuple ys, .list ys, .tuple cs, .list cs, .tuple (ys ++ ys), .none, .tuple [], .str "a"] ++ cs ++ [v] : List PyData) → Seen w := fun w hw => by
    have n0 : Seen .none := lim_of (by decide +kernel) (by decide +kernel) (by decide +kernel)
    have n1 : Seen (.tuple []) := lim_of (by decide +kernel) (by decide +kernel) (by decide +kernel)
    have n2 : Seen (.str "a") := lim_of (by decide +kernel) (by decide +kernel) (by decide +kernel)
    rw [List.mem_append, List.mem_append] at hw
    rcases hw with (hw | hw) | hw
    · simp only [List.mem_cons, List.not_mem_nil, or_false] at hw
      rcases hw with rfl | rfl | rfl | rfl | rfl | rfl | rfl | rfl
      · exact ly.tup.mono (by omega) (by omega)
      · exact ly.lst.mono (by omega) (by omega)
      · exact lc.tup.mono (by omega) (by omega)
      · exact lc.lst.mono (by omega) (by omega)
      · exact (ly.app ly).tup.mono (by omega) (by omega)
      · exact n0
      · exact n1
      · exact n2
    · exact (cmd_lim (c1 w hw)).mono (by omega) (by omega)
    · simp at hw
      rw [hw]
      exact v1.mono (by simp [anyC]) (by omega)
  obtain ⟨vals, e10', e11', S4, r1, r2, r3, r4⟩ := values_loop (l := l) ys cs ly lc (some (.scr ns)) e1 e2 e3 e4 (some (.d (.int (k : Nat)))) (rngL 0 16) _ e10 e11 S3 (fun x hx => by
    unfold rngL at hx
    obtain ⟨i, _, rfl⟩ := List.mem_map.mp hx
    exact ⟨_, rfl⟩) h3 sv (by rw [rngL_len]; simp; omega)
  obtain ⟨e1', e2', e3', t⟩ := checks (S := S4) (some (.scr ns)) e4 (some (.d (.int (k : Nat)))) (some (.ref l)) (some (.d (.tuple ys))) (some (.d (.tuple cs))) (some (.d (.list vals))) e10' e11' vals e1 e2 e3 r3
  refine ⟨e1', e2', e3', e4, some (.d (.int (k : Nat))), some (.ref l), some (.d (.tuple ys)), some (.d (.tuple cs)), some (.d (.list vals)), e10', e11', S4, ?_⟩
  · unfold b_law_4
    have s1 : (asgF 6 (refE (callE (F__law_source) (asL [rdE 0, rdE 5])))) [some (.scr ns), e1, e2, e3, e4, some (.d (.int (k : Nat))), e6, e7, e8, e9, e10, e11] S = .next [some (.scr ns), e1, e2, e3, e4, some (.d (.int (k : Nat))), some (.ref l), e7, e8, e9, e10, e11] S0 := by
      simp [q1, hS0, hl]
    have s2 : (parO 7 8 (callE (F__law_drawing) (asL [rdE 6, cE (.int 12), cE (.bool false)])) (callE (F__law_script) (asL [rdE 6, cE (.int 4)]))) [some (.scr ns), e1, e2, e3, e4, some (.d (.int (k : Nat))), some (.ref l), e7, e8, e9, e10, e11] S0 = .next [some (.scr ns), e1, e2, e3, e4, some (.d (.int (k : Nat))), some (.ref l), some (.d (.tuple ys)), some (.d (.tuple cs)), e9, e10, e11] S2 := by
      simp [d2', c3']
    have s3 : (asgO 9 (addE (lstE [rdE 7, listOfE (rdE 7), rdE 8, listOfE (rdE 8), addE (rdE 7) (rdE 7), cE .none, tupE [], cE (.str ("a" : Str))]) (listOfE (rdE 8)))) [some (.scr ns), e1, e2, e3, e4, some (.d (.int (k : Nat))), some (.ref l), some (.d (.tuple ys)), some (.d (.tuple cs)), e9, e10, e11] S2 = .next [some (.scr ns), e1, e2, e3, e4, some (.d (.int (k : Nat))), some (.ref l), some (.d (.tuple ys)), some (.d (.tuple cs)), some (.own ([.tuple ys, .list ys, .tuple cs, .list cs, .tuple (ys ++ ys), .none, .tuple [], .str "a"] ++ cs)), e10, e11] S2 := by
      simp at lb
      simp [la, lb]
    have s4 : (appS 9 (callE (F__law_any_value 6) (asL [rdE 6, cE (.int 3)]))) [some (.scr ns), e1, e2, e3, e4, some (.d (.int (k : Nat))), some (.ref l), some (.d (.tuple ys)), some (.d (.tuple cs)), some (.own ([.tuple ys, .list ys, .tuple cs, .list cs, .tuple (ys ++ ys), .none, .tuple [], .str "a"] ++ cs)), e10, e11] S2 = .next [some (.scr ns), e1, e2, e3, e4, some (.d (.int (k : Nat))), some (.ref l), some (.d (.tuple ys)), some (.d (.tuple cs)), some (.own ([.tuple ys, .list ys, .tuple cs, .list cs, .tuple (ys ++ ys), .none, .tuple [], .str "a"] ++ cs ++ [v])), e10, e11] S3 := by
      unfold appS
      simp [v2']
      unfold LIM
      omega
    have s5 : (forS (rng1 (cE (.int 16))) (tgN 10) (b_law_2)) [some (.scr ns), e1, e2, e3, e4, some (.d (.int (k : Nat))), some (.ref l), some (.d (.tuple ys)), some (.d (.tuple cs)), some (.own ([.tuple ys, .list ys, .tuple cs, .list cs, .tuple (ys ++ ys), .none, .tuple [], .str "a"] ++ cs ++ [v])), e10, e11] S3 = .next [some (.scr ns), e1, e2, e3, e4, some (.d (.int (k : Nat))), some (.ref l), some (.d (.tuple ys)), some (.d (.tuple cs)), some (.own vals), e10', e11'] S4 := by
      have : rngK (.d (.int 16)) S3 = _ := rngK_nat (k := 16) (by omega)
      rw [forS_ap, rng1_ap, cE_ap, RE.bind_ok, this, RE.bindS_ok]
      exact r1
    rw [seqS_ap, s1, RS.bind_next, seqS_ap, s2, RS.bind_next, seqS_ap, s3, RS.bind_next, seqS_ap, s4, RS.bind_next, seqS_ap, s5, RS.bind_next]
    have s6 : (frzS 9 (forS (itE (rdE 9)) (tgN 1) (b_law_3))) [some (.scr ns), e1, e2, e3, e4, some (.d (.int (k : Nat))), some (.ref l), some (.d (.tuple ys)), some (.d (.tuple cs)), some (.own vals), e10', e11'] S4 = forD (tgN 1) b_law_3 vals [some (.scr ns), e1, e2, e3, e4, some (.d (.int (k : Nat))), some (.ref l), some (.d (.tuple ys)), some (.d (.tuple cs)), some (.d (.list vals)), e10', e11'] S4 := by
      simp [Env.frz]
    rw [s6]
    exact t
theorem k01_loop (ns : List Int) : ∀ (xs : List PyData) (a1 a2 a3 a4 a5 a6 a7 a8 a9 a10 a11 : Option EV) (S : Store), (∀ x, x ∈ xs → ∃ k : Nat, x = .int (k : Nat) ∧ k ≤ 1000) → ∃ b1 b2 b3 b4 b5 b6 b7 b8 b9 b10 b11 S', forD (tgN 5) b_law_4 xs [some (.scr ns), a1, a2, a3, a4, a5, a6, a7, a8, a9, a10, a11] S = .next [some (.scr ns), b1, b2, b3, b4, b5, b6, b7, b8, b9, b10, b11] S'
  | [], a1, a2, a3, a4, a5, a6, a7, a8, a9, a10, a11, S, _ => ⟨_, _, _, _, _, _, _, _, _, _, _, S, rfl⟩
  | x :: xs, a1, a2, a3, a4, a5, a6, a7, a8, a9, a10, a11, S, h => by
    obtain ⟨k, rfl, hk⟩ := h x List.mem_cons_self
    obtain ⟨c1, c2, c3, c4, c5, c6, c7, c8, c9, c10, c11, S1, e⟩ := k01_turn ns k hk a1 a2 a3 a4 a6 a7 a8 a9 a10 a11 S
    obtain ⟨b1, b2, b3, b4, b5, b6, b7, b8, b9, b10, b11, S', e2⟩ := k01_loop ns xs c1 c2 c3 c4 c5 c6 c7 c8 c9 c10 c11 S1 fun x hx => h x (List.mem_cons_of_mem _ hx)
    refine ⟨b1, b2, b3, b4, b5, b6, b7, b8, b9, b10, b11, S', ?_⟩
    unfold forD
    simp only [tgN_ap, List.set_cons_succ, List.set_cons_zero, e]
    exact e2
theorem k01 (ns : List Int) (hl : ns.length ≤ 63) : ∃ S', F_law [.scr ns] [] = .ok (.d (.bool true)) S' := by
  have hm : ∃ m : Nat, m ≤ 20 ∧ (if (6 : Int) < (if (ns.length : Int) < 20 then (ns.length : Int) else 20) then (if (ns.length : Int) < 20 then (ns.length : Int) else 20) else 6) = (m : Int) := by
    by_cases h1 : (ns.length : Int) < 20
    · rw [if_pos h1]
      by_cases h2 : (6 : Int) < ns.length
      · exact ⟨ns.length, by omega, by rw [if_pos h2]⟩
      · exact ⟨6, by omega, by rw [if_neg h2]; rfl⟩
    · rw [if_neg h1]
      exact ⟨20, by omega, by rfl⟩
  obtain ⟨m, hm1, hm2⟩ := hm
  obtain ⟨b1, b2, b3, b4, b5, b6, b7, b8, b9, b10, b11, S', e⟩ := k01_loop ns (rngL 0 m) (some (.d (.list [.str "up", .str "a"]))) (some (.d (.bool false))) (some (.d (.bool false))) (some (.d (.bool false))) none none none none none none none [] (fun x hx => by
    unfold rngL at hx
    obtain ⟨i, hi, rfl⟩ := List.mem_map.mp hx
    have := List.mem_range.mp hi
    exact ⟨i, by simp, by omega⟩)
  refine ⟨S', ?_⟩
  show endF (g_law [some (.scr ns), none, none, none, none, none, none, none, none, none, none, none] []) = _
  unfold g_law
  rw [seqS_ap, written_ok, RS.bind_next, seqS_ap]
  have s2 : (forS (rng1 (maxE (cE (.int 6)) (minE (cE (.int 20)) (lenE (rdE 0))))) (tgN 5) (b_law_4)) [some (.scr ns), some (.d (.list [.str "up", .str "a"])), some (.d (.bool false)), some (.d (.bool false)), some (.d (.bool false)), none, none, none, none, none, none, none] [] = .next [some (.scr ns), b1, b2, b3, b4, b5, b6, b7, b8, b9, b10, b11] S' := by
    have hr : (rng1 (maxE (cE (.int 6)) (minE (cE (.int 20)) (lenE (rdE 0))))) [some (.scr ns), some (.d (.list [.str "up", .str "a"])), some (.d (.bool false)), some (.d (.bool false)), some (.d (.bool false)), none, none, none, none, none, none, none] [] = .ok (.d (.list (rngL 0 m))) [] := by
      have : (maxE (cE (.int 6)) (minE (cE (.int 20)) (lenE (rdE 0)))) [some (.scr ns), some (.d (.list [.str "up", .str "a"])), some (.d (.bool false)), some (.d (.bool false)), some (.d (.bool false)), none, none, none, none, none, none, none] [] = .ok (.d (.int (m : Nat))) [] := by
        rw [← hm2]
        simp
      rw [rng1_ap, this, RE.bind_ok, rngK_nat (by omega)]
    rw [forS_ap, hr, RE.bindS_ok]
    exact e
  rw [s2, RS.bind_next, last_ok]
  rfl
end P

set_option Elab.async false
set_option linter.all false
set_option maxRecDepth 100000
set_option maxHeartbeats 4000000
/-! V1: Moves put together. -/
namespace P
open PySem PySem.Spec PyProof.Rows L2 DL U

/-- a script's commands -/
structure Scr (cs : List PyData) : Prop where
  cm : ∀ c, c ∈ cs → cmdD c = true
  le : cs.length ≤ 4
theorem Scr.sh {cs : List PyData} (h : Scr cs) : SeqAt.shaped (.tuple cs) = true := (fit2 (script_lim h.cm h.le).tup (by omega) (by omega)).sh
theorem Scr.fit {cs : List PyData} (h : Scr cs) : Fit (.tuple cs) := (fit2 (script_lim h.cm h.le).tup (by omega) (by omega)).toFit
theorem Scr.app {cs ds : List PyData} (h : Scr cs) (h2 : Scr ds) (hl : cs.length + ds.length ≤ 4) : Scr (cs ++ ds) := ⟨fun c hc => by
  rcases List.mem_append.mp hc with q | q
  · exact h.cm c q
  · exact h2.cm c q, by simpa using hl⟩
theorem Scr.del {cs : List PyData} (h : Scr cs) (i : Nat) : Scr (cs.take i ++ cs.drop (i + 1)) := ⟨fun c hc => by
  rcases List.mem_append.mp hc with q | q
  · exact h.cm c (List.mem_of_mem_take q)
  · exact h.cm c (List.mem_of_mem_drop q), by
  have := h.le
  rw [List.length_append, List.length_take, List.length_drop]
  omega⟩
theorem eqv_selfV {x : PyData} (h : SeqAt.shaped x = true) : PyData.eqv x x = true := PySem.SeqAt.eqv_refl x (SeqAt.canLay_of_shaped h)
abbrev mvO (cs : List PyData) : Cell := .obj "Moves" [("all", .d (.tuple cs))]
/-- a Moves in the store -/
def Mv (S : Store) (l : Nat) (cs : List PyData) : Prop := S[l]? = some (mvO cs)
/-- the store has grown -/
def Ext (S S' : Store) : Prop := ∀ (i : Nat) (c : Cell), S[i]? = some c → S'[i]? = some c
theorem Ext.refl (S : Store) : Ext S S := fun _ _ h => h
theorem Ext.trans {S S1 S2 : Store} (a : Ext S S1) (b : Ext S1 S2) : Ext S S2 := fun i c h => b i c (a i c h)
theorem ext_app (S T : Store) : Ext S (S ++ T) := fun i c h => by rw [List.getElem?_append_left (List.getElem?_eq_some_iff.mp h).1]; exact h
theorem Ext.mv {S S' : Store} (e : Ext S S') {l : Nat} {cs : List PyData} (h : Mv S l cs) : Mv S' l cs := e _ _ h
theorem Ext.drw {S S' : Store} (e : Ext S S') {l : Nat} (h : Drw l S) : Drw l S' := by
  obtain ⟨a, b, q, q1⟩ := h
  exact ⟨a, b, e _ _ q, q1⟩
theorem mv_last (S : Store) (cs : List PyData) : Mv (S ++ [mvO cs]) S.length cs := by
  unfold Mv
  simp
theorem allD_mapV (ds : List PyData) : allD (ds.map .d) = some ds := by
  induction ds with
  | nil => rfl
  | cons d ds ih => simp [ih]
theorem need_scr {cs : List PyData} (h : Scr cs) (S : Store) : F_need_script [.d (.tuple cs)] S = .ok (.d .none) S := by
  show endF (g_need_script [some (.d (.tuple cs))] S) = _
  have hs : scrD (.tuple cs) = true := by
    unfold scrD
    simp [h.le]
    exact h.cm
  have q := h.fit.scr S
  rw [hs] at q
  unfold g_need_script
  simp [q]
theorem mv_make {cs : List PyData} (h : Scr cs) (S : Store) : makeK "Moves" F_Moves___init__ (cs.map .d) S = .ok (.ref S.length) (S ++ [mvO cs]) := by
  have hn := need_scr h
  have hl := h.le
  have hi : F_Moves___init__ (.ref S.length :: cs.map .d) (S ++ [.obj "Moves" []]) = .ok (.d .none) (S ++ [mvO cs]) := by
    unfold F_Moves___init__ starF
    rw [if_neg (by simp)]
    simp only [List.drop_one, List.tail_cons, allD_mapV]
    rw [if_pos (by omega)]
    simp only [List.take_one, List.head?_cons]
    show endF (g_Moves___init__ [some (.ref S.length), some (.d (.tuple cs))] _) = _
    unfold g_Moves___init__
    have hset : (S ++ [Cell.obj "Moves" []] : Store).set S.length (.obj "Moves" [("all", .d (.tuple cs))]) = S ++ [mvO cs] := by simp
    simp [hn, fldS, fldPut, EV.inF, putE, hset]
  unfold makeK
  rw [hi]
/-- a value that is no Moves -/
inductive NoMv : EV → Prop
  | d (x : PyData) : NoMv (.d x)
  | lo : NoMv (.tag .lo)
theorem fld_all {S : Store} {l : Nat} {cs : List PyData} (h : Mv S l cs) : fldK "Moves" "all" (.ref l) S = .ok (.d (.tuple cs)) S := by
  have h' : S[l]? = some (.obj "Moves" [("all", .d (.tuple cs))]) := h
  unfold fldK
  simp only [h', if_true]
  rfl
@[simp] theorem fldE_ap {c f : Str} {fo : DE} {env : DL.Env} {S : Store} : fldE c f fo env S = (fo env S).bind (fldK c f) := rfl
@[simp] theorem isiCE_ap {c : Str} {fo : DE} {env : DL.Env} {S : Store} : isiCE c fo env S = (fo env S).bind (isiCK c) := rfl
theorem isi_mv {S : Store} {l : Nat} {cs : List PyData} (h : Mv S l cs) : isiCK "Moves" (.ref l) S = .ok (.d (.bool true)) S := by
  have h' : S[l]? = some (.obj "Moves" [("all", .d (.tuple cs))]) := h
  unfold isiCK
  simp only [h', if_true]
  rfl
theorem isi_no {ev : EV} (h : NoMv ev) (S : Store) : isiCK "Moves" ev S = .ok (.d (.bool false)) S := by
  cases h with
  | d x => rfl
  | lo => rfl
theorem NoMv.read {ev : EV} (h : NoMv ev) : ev.read = ev := by cases h <;> rfl
theorem NoMv.fixed {ev : EV} (h : NoMv ev) : ev.fixed = some ev := by cases h <;> rfl
theorem joined_ok {S : Store} {l m : Nat} {a b : List PyData} (h1 : Mv S l a) (h2 : Mv S m b) (ha : a.length ≤ 4) (hb : b.length ≤ 4) : F_Moves_joined [.ref l, .ref m] S = if a.length + b.length ≤ 4 then .ok (.d (.tuple (a ++ b))) S else .raise ⟨"TooMany", some ("limit", .int 4)⟩ S := by
  show endF (g_Moves_joined [some (.ref l), some (.ref m)] S) = _
  unfold g_Moves_joined
  have had := addG_tuple (xs := a) (ys := b) (by omega)
  by_cases hl : a.length + b.length ≤ 4
  · rw [if_pos hl]
    simp [isi_mv h2, fld_all h1, fld_all h2, show ¬ (4 : Int) < (a.length : Int) + b.length by omega, had]
  · rw [if_neg hl]
    simp [isi_mv h2, fld_all h1, fld_all h2, show (4 : Int) < (a.length : Int) + b.length by omega, raiseFS]
theorem joined_no {S : Store} {l : Nat} {ev : EV} (h : NoMv ev) : F_Moves_joined [.ref l, ev] S = .raise ⟨"InvalidScript", none⟩ S := by
  show endF (g_Moves_joined [some (.ref l), some ev] S) = _
  unfold g_Moves_joined
  simp [h.read, isi_no h, raiseS]
theorem meth_joined {S : Store} {l : Nat} {a : List PyData} (h1 : Mv S l a) {as : DA} {env : DL.Env} : methK "Moves" "joined" F_Moves_joined as env (.ref l) S = (as env S).bind fun xs S2 => F_Moves_joined (.ref l :: xs) S2 := by
  have h' : S[l]? = some (.obj "Moves" [("all", .d (.tuple a))]) := h1
  unfold methK
  have hk : List.lookup ("joined" : Str) [(("all" : Str), EV.d (.tuple a))] = none := by
    have : (("joined" : Str) == "all") = false := by decide +kernel
    simp [List.lookup, this]
  simp only [h', hk, and_self, if_true]
@[simp] theorem methE_ap {c m : Str} {Ff : DF} {fo : DE} {as : DA} {env : DL.Env} {S : Store} : methE c m Ff fo as env S = (fo env S).bind (methK c m Ff as env) := rfl
theorem makeSt_tup {env : DL.Env} {S S1 : Store} {fe : DE} {cs : List PyData} (h : Scr cs) (e : fe env S = .ok (.d (.tuple cs)) S1) : makeStE "Moves" F_Moves___init__ fe env S = .ok (.ref S1.length) (S1 ++ [mvO cs]) := by
  unfold makeStE
  rw [e]
  simp only [RE.bind_ok, view_d, mv_make h]
theorem add_ok {S : Store} {l m : Nat} {a b : List PyData} (h1 : Mv S l a) (h2 : Mv S m b) (ha : Scr a) (hb : Scr b) : F_Moves___add__ [.ref l, .ref m] S = if a.length + b.length ≤ 4 then .ok (.ref S.length) (S ++ [mvO (a ++ b)]) else .raise ⟨"TooMany", some ("limit", .int 4)⟩ S := by
  show endF (g_Moves___add__ [some (.ref l), some (.ref m), none] S) = _
  have j := joined_ok h1 h2 ha.le hb.le
  unfold g_Moves___add__
  by_cases hl : a.length + b.length ≤ 4
  · rw [if_pos hl] at j ⊢
    simp [meth_joined h1, j]
    rw [makeSt_tup (ha.app hb hl) (by simp; rfl)]
    rfl
  · rw [if_neg hl] at j ⊢
    simp [meth_joined h1, j]
theorem add_no {S : Store} {l : Nat} {a : List PyData} (h1 : Mv S l a) {ev : EV} (h : NoMv ev) : F_Moves___add__ [.ref l, ev] S = .raise ⟨"InvalidScript", none⟩ S := by
  show endF (g_Moves___add__ [some (.ref l), some ev, none] S) = _
  have j := joined_no (S := S) (l := l) h
  unfold g_Moves___add__
  simp [meth_joined h1, h.read, h.fixed, j]
theorem iadd_ok {S : Store} {l m : Nat} {a b : List PyData} (h1 : Mv S l a) (h2 : Mv S m b) (ha : Scr a) (hb : Scr b) : F_Moves___iadd__ [.ref l, .ref m] S = if a.length + b.length ≤ 4 then .ok (.ref l) (S.set l (mvO (a ++ b))) else .raise ⟨"TooMany", some ("limit", .int 4)⟩ S := by
  show endF (g_Moves___iadd__ [some (.ref l), some (.ref m)] S) = _
  have j := joined_ok h1 h2 ha.le hb.le
  unfold g_Moves___iadd__
  by_cases hl : a.length + b.length ≤ 4
  · rw [if_pos hl] at j ⊢
    have h1' : S[l]? = some (.obj "Moves" [("all", .d (.tuple a))]) := h1
    simp [fldS, meth_joined h1, j, EV.inF, fldPut, h1', putE]
  · rw [if_neg hl] at j ⊢
    simp [fldS, meth_joined h1, j]
theorem iadd_no {S : Store} {l : Nat} {a : List PyData} (h1 : Mv S l a) {ev : EV} (h : NoMv ev) : F_Moves___iadd__ [.ref l, ev] S = .raise ⟨"InvalidScript", none⟩ S := by
  show endF (g_Moves___iadd__ [some (.ref l), some ev] S) = _
  have j := joined_no (S := S) (l := l) h
  unfold g_Moves___iadd__
  simp [fldS, meth_joined h1, h.read, h.fixed, j]
/-! ### indices -/
@[simp] theorem isiOE_ap {T : String} {c : Str} {fo : DE} {env : DL.Env} {S : Store} : isiOE T c fo env S = (fo env S).bind (isiOK T c) := rfl
@[simp] theorem isiOK_d {T : String} {c : Str} {x : PyData} {S : Store} : isiOK T c (.d x) S = .ok (.d (.bool (tyD x == T || (tyD x == "bool" && T == "int")))) S := rfl
theorem index_ok {a : List PyData} {i : Nat} (hi : i < a.length) (S : Store) : F_need_index [.d (.tuple a), .d (.int (i : Nat))] S = .ok (.d .none) S := by
  show endF (g_need_index [some (.d (.tuple a)), some (.d (.int (i : Nat)))] S) = _
  unfold g_need_index
  simp [show (0 : Int) ≤ (i : Int) by omega, hi]
/-- a value that is no index -/
inductive NoIx (S : Store) (n : Nat) : EV → Prop
  | i (k : Int) (h : ¬ (0 ≤ k ∧ k < n)) : NoIx S n (.d (.int k))
  | n : NoIx S n (.d .none)
  | b (k : Bool) : NoIx S n (.d (.bool k))
  | s (x : Str) : NoIx S n (.d (.str x))
  | o (l : Nat) (cs : List PyData) (h : Mv S l cs) : NoIx S n (.ref l)
theorem index_no {a : List PyData} {ev : EV} {S : Store} (h : NoIx S a.length ev) : F_need_index [.d (.tuple a), ev] S = .raise ⟨"InvalidIndex", none⟩ S := by
  show endF (g_need_index [some (.d (.tuple a)), some ev] S) = _
  unfold g_need_index
  cases h with
  | i k h =>
    by_cases h0 : 0 ≤ k
    · simp [h0, show ¬ k < (a.length : Int) by omega, raiseS]
    · simp [h0, raiseS]
  | n => simp [raiseS]
  | b k => simp [raiseS]
  | s x => simp [raiseS]
  | o l cs h =>
    have h' : S[l]? = some (.obj "Moves" [("all", .d (.tuple cs))]) := h
    simp [isiOK, h', raiseS]
theorem NoIx.read {S : Store} {n : Nat} {ev : EV} (h : NoIx S n ev) : ev.read = ev := by cases h <;> rfl
theorem NoIx.fixed {S : Store} {n : Nat} {ev : EV} (h : NoIx S n ev) : ev.fixed = some ev := by cases h <;> rfl
theorem without_ok {a : List PyData} {i : Nat} (hi : i < a.length) (ha : a.length ≤ 4) (S : Store) : F_without [.d (.tuple a), .d (.int (i : Nat))] S = .ok (.d (.tuple (a.take i ++ a.drop (i + 1)))) S := by
  show endF (g_without [some (.d (.tuple a)), some (.d (.int (i : Nat)))] S) = _
  unfold g_without
  have c1 := cut_to (xs := a) (k := i) (by omega)
  have c2 := cut_from (xs := a) (k := i + 1) (by omega)
  have c2' : DL.cutD a (some ((i : Int) + 1)) none = a.drop (i + 1) := c2
  have had := addG_tuple (xs := a.take i) (ys := a.drop (i + 1)) (by rw [List.length_take, List.length_drop]; omega)
  simp [slG, c1, c2', had]
theorem sub_ok {S : Store} {l : Nat} {a : List PyData} (h1 : Mv S l a) (ha : Scr a) {i : Nat} (hi : i < a.length) : F_Moves___sub__ [.ref l, .d (.int (i : Nat))] S = .ok (.ref S.length) (S ++ [mvO (a.take i ++ a.drop (i + 1))]) := by
  show endF (g_Moves___sub__ [some (.ref l), some (.d (.int (i : Nat))), none] S) = _
  unfold g_Moves___sub__
  simp [fld_all h1, index_ok hi, without_ok hi ha.le]
  rw [makeSt_tup (ha.del i) (by simp; rfl)]
  rfl
theorem sub_no {S : Store} {l : Nat} {a : List PyData} (h1 : Mv S l a) {ev : EV} (h : NoIx S a.length ev) : F_Moves___sub__ [.ref l, ev] S = .raise ⟨"InvalidIndex", none⟩ S := by
  show endF (g_Moves___sub__ [some (.ref l), some ev, none] S) = _
  unfold g_Moves___sub__
  simp [fld_all h1, h.read, h.fixed, index_no h]
end P

set_option Elab.async false
set_option linter.all false
set_option maxRecDepth 100000
set_option maxHeartbeats 4000000
/-! V2: what the law k42 asks of Moves. -/
namespace P
open PySem PySem.Spec PyProof.Rows L2 DL U

theorem okTy_mv {S : Store} {m : Nat} {b : List PyData} (h : Mv S m b) : okTy "Moves" S (.ref m) = true := by
  have h' : S[m]? = some (.obj "Moves" [("all", .d (.tuple b))]) := h
  unfold okTy
  simp [h']
theorem okTy_no {S : Store} {ev : EV} (h : NoMv ev) : okTy "Moves" S ev = true := by cases h <;> rfl
theorem okTy_ix {S : Store} {n : Nat} {ev : EV} (h : NoIx S n ev) : okTy "Moves" S ev = true := by
  cases h with
  | o l cs h => exact okTy_mv h
  | _ => rfl
theorem ownK_mv {Ff : DF} {S : Store} {l : Nat} {a : List PyData} (h : Mv S l a) {ev : EV} (hf : ev.fixed = some ev) (ht : okTy "Moves" S ev = true) : ownK "Moves" Ff (.ref l) ev S = Ff [.ref l, ev] S := by
  have h' : S[l]? = some (.obj "Moves" [("all", .d (.tuple a))]) := h
  unfold ownK
  simp [hf, h', ht]
@[simp] theorem ownE_ap {c : Str} {Ff : DF} {fa fb : DE} {env : DL.Env} {S : Store} : ownE c Ff fa fb env S = (fa env S).bind fun x S1 => (fb env S1).bind fun y S2 => ownK c Ff x y S2 := rfl
@[simp] theorem makeE_ap {c : Str} {Ff : DF} {as : DA} {env : DL.Env} {S : Store} : makeE c Ff as env S = (as env S).bind (makeK c Ff) := rfl
theorem mv_make1 {c : PyData} (h : cmdD c = true) (S : Store) : makeK "Moves" F_Moves___init__ [.d c] S = .ok (.ref S.length) (S ++ [mvO [c]]) := mv_make (cs := [c]) ⟨fun x hx => by simp at hx; rw [hx]; exact h, by simp⟩ S
theorem made_loop (e0 : Option EV) : ∀ (xs acc : List PyData) (l : Nat) (e2 : Option EV) (S : Store), Mv S l acc → Scr (acc ++ xs) → ∃ l' e2' S', forD (tgN 2) b__law_made_1 xs [e0, some (.ref l), e2] S = .next [e0, some (.ref l'), e2'] S' ∧ Mv S' l' (acc ++ xs) ∧ Ext S S' ∧ S.length ≤ S'.length ∧ (xs = [] → l' = l) ∧ (l' = l ∨ S.length ≤ l')
  | [], acc, l, e2, S, h, _ => ⟨l, e2, S, rfl, by simpa using h, Ext.refl S, Nat.le_refl _, fun _ => rfl, .inl rfl⟩
  | c :: xs, acc, l, e2, S, h, hs => by
    have hc : cmdD c = true := hs.cm c (by simp)
    have hl := hs.le
    rw [List.length_append, List.length_cons] at hl
    have ha : Scr acc := ⟨fun x hx => hs.cm x (List.mem_append_left _ hx), by omega⟩
    have h1 : Scr [c] := ⟨fun x hx => by simp at hx; rw [hx]; exact hc, by simp⟩
    have g1 := (ext_app S [mvO [c]]).mv h
    have g2 := mv_last S [c]
    have ad := add_ok g1 g2 ha h1
    rw [if_pos (by simp; omega)] at ad
    have ow := ownK_mv (Ff := F_Moves___add__) g1 (ev := .ref S.length) rfl (okTy_mv g2)
    have step : b__law_made_1 [e0, some (.ref l), some (.d c)] S = .next [e0, some (.ref (S ++ [mvO [c]]).length), some (.d c)] (S ++ [mvO [c]] ++ [mvO (acc ++ [c])]) := by
      unfold b__law_made_1
      simp [mv_make1 hc, ow, ad]
    obtain ⟨l', e2', S', q1, q2, q3, q4, q5, q6⟩ := made_loop e0 xs (acc ++ [c]) (S ++ [mvO [c]]).length (some (.d c)) (S ++ [mvO [c]] ++ [mvO (acc ++ [c])]) (mv_last _ _) (by rw [List.append_assoc]; exact hs)
    refine ⟨l', e2', S', ?_, by rw [List.append_assoc] at q2; exact q2, ((ext_app S _).trans (ext_app _ _)).trans q3, (by simp at q4; omega), (fun z => nomatch z), .inr ?_⟩
    · unfold forD
      simp only [tgN_ap, List.set_cons_succ, List.set_cons_zero, step]
      exact q1
    · rcases q6 with q | q
      · rw [q]; simp
      · simp at q; omega
theorem made {cs : List PyData} (h : Scr cs) (S : Store) : ∃ l S', F__law_made [.d (.tuple cs)] S = .ok (.ref l) S' ∧ Mv S' l cs ∧ Ext S S' ∧ S.length ≤ l := by
  obtain ⟨l', e2', S', q1, q2, q3, q4, q5, q6⟩ := made_loop (some (.d (.tuple cs))) cs [] S.length none (S ++ [mvO []]) (mv_last S []) (by simpa using h)
  refine ⟨l', S', ?_, by simpa using q2, (ext_app S _).trans q3, by
    rcases q6 with q | q
    · omega
    · simp at q; omega⟩
  show endF (g__law_made [some (.d (.tuple cs)), none, none] S) = _
  have m0 := mv_make (cs := []) ⟨by simp, by simp⟩ S
  have m0' : makeK "Moves" F_Moves___init__ [] S = _ := m0
  unfold g__law_made
  simp [m0']
  rw [q1]
  rfl
/-! ### outcomes -/
theorem eqi (i j : Int) : eqG (.int i) (.int j) = some (.d (.bool (i == j))) := by
  have si : ∀ k : Int, SeqAt.shaped (.int k) = true := fun k => canLay_shaped (by simp [PyData.canLay0]) (by simp [PyData.depth])
  rw [eqG_sh (si _) (si _)]
  simp [PyData.eqv]
theorem xs1 : exSub "TooMany" "InvalidScript" = false := by decide +kernel
theorem xs2 : exSub "TooMany" "InvalidIndex" = false := by decide +kernel
theorem xs3 : exSub "TooMany" "TooMany" = true := by decide +kernel
theorem xs4 : exSub "InvalidScript" "InvalidScript" = true := by decide +kernel
theorem xs5 : exSub "InvalidIndex" "InvalidScript" = false := by decide +kernel
theorem xs6 : exSub "InvalidIndex" "InvalidIndex" = true := by decide +kernel
theorem many4 : gTxt "many" 4 = some (.str "many4") := by
  unfold gTxt
  rw [if_pos (by decide)]
  congr 2
@[simp] theorem tryX_ap {known : List Str} {body : DS} {hs : List (Str × Hdl)} {env : DL.Env} {S : Store} : tryX known body hs env S = match body env S with
  | .raise e env' S' => if known.contains e.cls = true then runX e env' S' hs else .stuck
  | r => r := rfl
section
variable {S : Store} {l m : Nat} {a b : List PyData}
theorem out0_ok (h1 : Mv S l a) (h2 : Mv S m b) (ha : Scr a) (hb : Scr b) : F__law_outcome_k42 [.d (.int 0), .ref l, .ref m] S = if a.length + b.length ≤ 4 then .ok (.d (.tuple (a ++ b))) (S ++ [mvO (a ++ b)]) else .ok (.d (.str "many4")) S := by
  show endF (g__law_outcome_k42 [some (.d (.int 0)), some (.ref l), some (.ref m), none] S) = _
  have ow := ownK_mv (Ff := F_Moves___add__) h1 (ev := .ref m) rfl (okTy_mv h2)
  have ad := add_ok h1 h2 ha hb
  unfold g__law_outcome_k42
  by_cases hl : a.length + b.length ≤ 4
  · rw [if_pos hl] at ad ⊢
    have fl := fld_all (mv_last S (a ++ b))
    simp [eqi, ow, ad, fl]
  · rw [if_neg hl] at ad ⊢
    simp [eqi, ow, ad, runX, xs1, xs2, xs3, hRet, many4]
theorem out0_no (h1 : Mv S l a) {ev : EV} (h : NoMv ev) : F__law_outcome_k42 [.d (.int 0), .ref l, ev] S = .ok (.d (.str "script!")) S := by
  show endF (g__law_outcome_k42 [some (.d (.int 0)), some (.ref l), some ev, none] S) = _
  have ow := ownK_mv (Ff := F_Moves___add__) h1 h.fixed (okTy_no h)
  have ad := add_no h1 h
  unfold g__law_outcome_k42
  simp [eqi, h.read, ow, ad, runX, xs4, hUn]
theorem out1_ok (h1 : Mv S l a) (ha : Scr a) {i : Nat} (hi : i < a.length) : F__law_outcome_k42 [.d (.int 1), .ref l, .d (.int (i : Nat))] S = .ok (.d (.tuple (a.take i ++ a.drop (i + 1)))) (S ++ [mvO (a.take i ++ a.drop (i + 1))]) := by
  show endF (g__law_outcome_k42 [some (.d (.int 1)), some (.ref l), some (.d (.int (i : Nat))), none] S) = _
  have ow := ownK_mv (Ff := F_Moves___sub__) h1 (ev := .d (.int (i : Nat))) rfl rfl
  have ad := sub_ok h1 ha hi
  have fl := fld_all (mv_last S (a.take i ++ a.drop (i + 1)))
  unfold g__law_outcome_k42
  simp [eqi, ow, ad, fl]
theorem out1_no (h1 : Mv S l a) {ev : EV} (h : NoIx S a.length ev) : F__law_outcome_k42 [.d (.int 1), .ref l, ev] S = .ok (.d (.str "index!")) S := by
  show endF (g__law_outcome_k42 [some (.d (.int 1)), some (.ref l), some ev, none] S) = _
  have ow := ownK_mv (Ff := F_Moves___sub__) h1 h.fixed (okTy_ix h)
  have ad := sub_no h1 h
  unfold g__law_outcome_k42
  simp [eqi, h.read, ow, ad, runX, xs5, xs6, hUn]
theorem out2_no (h1 : Mv S l a) {ev : EV} (h : NoMv ev) : F__law_outcome_k42 [.d (.int 2), .ref l, ev] S = .ok (.d (.str "script!")) S := by
  show endF (g__law_outcome_k42 [some (.d (.int 2)), some (.ref l), some ev, none] S) = _
  have h' : S[l]? = some (.obj "Moves" [("all", .d (.tuple a))]) := h1
  have ad := iadd_no h1 h
  unfold g__law_outcome_k42
  simp [eqi, ownS, h.read, h.fixed, h', ad, runX, xs4, hUn]
theorem out2_ok (h1 : Mv S l a) (h2 : Mv S m b) (ha : Scr a) (hb : Scr b) : F__law_outcome_k42 [.d (.int 2), .ref l, .ref m] S = if a.length + b.length ≤ 4 then .ok (.d (.tuple (a ++ b))) (S.set l (mvO (a ++ b))) else .ok (.d (.str "many4")) S := by
  show endF (g__law_outcome_k42 [some (.d (.int 2)), some (.ref l), some (.ref m), none] S) = _
  have h' : S[l]? = some (.obj "Moves" [("all", .d (.tuple a))]) := h1
  have ad := iadd_ok h1 h2 ha hb
  unfold g__law_outcome_k42
  by_cases hl : a.length + b.length ≤ 4
  · rw [if_pos hl] at ad ⊢
    have g1 : Mv (S.set l (mvO (a ++ b))) l (a ++ b) := by
      unfold Mv
      rw [List.getElem?_set_self (List.getElem?_eq_some_iff.mp h1).1]
    have fl := fld_all g1
    simp [eqi, ownS, h', ad, fl]
  · rw [if_neg hl] at ad ⊢
    simp [eqi, ownS, h', ad, runX, xs1, xs2, xs3, hRet, many4]
end
end P

set_option Elab.async false
set_option linter.all false
set_option maxRecDepth 100000
set_option maxHeartbeats 4000000
/-! V3: the law k42. -/
namespace P
open PySem PySem.Spec PyProof.Rows L2 DL U

theorem count_ok (lo hi n : Nat) : ∃ m : Nat, m ≤ max lo hi ∧ (if (lo : Int) < (if (n : Int) < (hi : Int) then (n : Int) else (hi : Int)) then (if (n : Int) < (hi : Int) then (n : Int) else (hi : Int)) else (lo : Int)) = (m : Int) := by
  refine ⟨max lo (min n hi), by omega, ?_⟩
  split <;> split <;> omega
theorem rng_ok {m : Nat} (hm : m ≤ 1000) : ∀ x, x ∈ rngL 0 m → ∃ k : Nat, x = .int (k : Nat) ∧ k ≤ 1000 := fun x hx => by
  unfold rngL at hx
  obtain ⟨i, hi, rfl⟩ := List.mem_map.mp hx
  have := List.mem_range.mp hi
  exact ⟨i, by simp, by omega⟩
theorem rng_lt {m : Nat} : ∀ x, x ∈ rngL 0 m → ∃ k : Nat, x = .int (k : Nat) ∧ k < m := fun x hx => by
  unfold rngL at hx
  obtain ⟨i, hi, rfl⟩ := List.mem_map.mp hx
  have := List.mem_range.mp hi
  exact ⟨i, by simp, this⟩
theorem shaped_many : SeqAt.shaped (.str "many4") = true := by decide +kernel
theorem shaped_scr : SeqAt.shaped (.str "script!") = true := by decide +kernel
theorem shaped_ind : SeqAt.shaped (.str "index!") = true := by decide +kernel
/-- what comes of a sum -/
def dueD (a b : List PyData) : PyData := if a.length + b.length ≤ 4 then .tuple (a ++ b) else .str "many4"
theorem due_sh {a b : List PyData} (ha : Scr a) (hb : Scr b) : SeqAt.shaped (dueD a b) = true := by
  unfold dueD
  by_cases hl : a.length + b.length ≤ 4
  · rw [if_pos hl]
    exact (ha.app hb hl).sh
  · rw [if_neg hl]
    exact shaped_many
theorem out0 {S : Store} {l m : Nat} {a b : List PyData} (h1 : Mv S l a) (h2 : Mv S m b) (ha : Scr a) (hb : Scr b) : ∃ S', F__law_outcome_k42 [.d (.int 0), .ref l, .ref m] S = .ok (.d (dueD a b)) S' ∧ Ext S S' := by
  have o := out0_ok h1 h2 ha hb
  unfold dueD
  by_cases hl : a.length + b.length ≤ 4
  · rw [if_pos hl] at o
    rw [if_pos hl]
    exact ⟨_, o, ext_app _ _⟩
  · rw [if_neg hl] at o
    rw [if_neg hl]
    exact ⟨_, o, Ext.refl _⟩
theorem at_loop {cs : List PyData} (hs : Scr cs) {l : Nat} (e0 e1 e2 e4 e6 e7 e9 e10 e11 : Option EV) : ∀ (xs : List PyData) (e8 : Option EV) (S : Store), (∀ x, x ∈ xs → ∃ k : Nat, x = .int (k : Nat) ∧ k < cs.length) → Mv S l cs →
    ∃ e8' S', forD (tgN 8) b_law_k42_1 xs [e0, e1, e2, some (.d (.tuple cs)), e4, some (.ref l), e6, e7, e8, e9, e10, e11] S = .next [e0, e1, e2, some (.d (.tuple cs)), e4, some (.ref l), e6, e7, e8', e9, e10, e11] S' ∧ Ext S S'
  | [], e8, S, _, _ => ⟨e8, S, rfl, Ext.refl S⟩
  | x :: xs, e8, S, hx, h => by
    obtain ⟨k, rfl, hk⟩ := hx x List.mem_cons_self
    have o := out1_ok h hs hk
    have sh := (hs.del k).sh
    have c1 := cut_to (xs := cs) (k := k) (by omega)
    have c2 := cut_from (xs := cs) (k := k + 1) (by omega)
    have c2' : DL.cutD cs (some ((k : Int) + 1)) none = cs.drop (k + 1) := c2
    have hle := hs.le
    have had := addG_tuple (xs := cs.take k) (ys := cs.drop (k + 1)) (by rw [List.length_take, List.length_drop]; omega)
    have step : b_law_k42_1 [e0, e1, e2, some (.d (.tuple cs)), e4, some (.ref l), e6, e7, some (.d (.int (k : Nat))), e9, e10, e11] S = .next [e0, e1, e2, some (.d (.tuple cs)), e4, some (.ref l), e6, e7, some (.d (.int (k : Nat))), e9, e10, e11] (S ++ [mvO (cs.take k ++ cs.drop (k + 1))]) := by
      unfold b_law_k42_1
      simp [o, slG, c1, c2', had, neG_sh sh sh, eqv_selfV sh]
    obtain ⟨e8', S', q1, q2⟩ := at_loop hs e0 e1 e2 e4 e6 e7 e9 e10 e11 xs (some (.d (.int (k : Nat)))) _ (fun y hy => hx y (List.mem_cons_of_mem _ hy)) ((ext_app S [mvO (cs.take k ++ cs.drop (k + 1))]).mv h)
    refine ⟨e8', S', ?_, (ext_app _ _).trans q2⟩
    unfold forD
    simp only [tgN_ap, List.set_cons_succ, List.set_cons_zero, step]
    exact q1
theorem odd2_loop {cs : List PyData} {l : Nat} (e0 e1 e2 e3 e4 e6 e7 e8 e10 e11 : Option EV) (S : Store) (h : Mv S l cs) : ∀ (evs : List EV) (e9 : Option EV), (∀ ev, ev ∈ evs → NoMv ev) →
    ∃ e9', forLD (tgN 9) b_law_k42_2 evs [e0, e1, e2, e3, e4, some (.ref l), e6, e7, e8, e9, e10, e11] S = .next [e0, e1, e2, e3, e4, some (.ref l), e6, e7, e8, e9', e10, e11] S
  | [], e9, _ => ⟨e9, rfl⟩
  | ev :: evs, e9, hv => by
    have hn := hv ev List.mem_cons_self
    have o0 := out0_no h hn
    have o2 := out2_no h hn
    have step : b_law_k42_2 [e0, e1, e2, e3, e4, some (.ref l), e6, e7, e8, some ev, e10, e11] S = .next [e0, e1, e2, e3, e4, some (.ref l), e6, e7, e8, some ev, e10, e11] S := by
      unfold b_law_k42_2
      simp [hn.read, hn.fixed, o0, o2, neG_sh shaped_scr shaped_scr, eqv_selfV shaped_scr]
    obtain ⟨e9', q⟩ := odd2_loop e0 e1 e2 e3 e4 e6 e7 e8 e10 e11 S h evs (some ev) fun x hx => hv x (List.mem_cons_of_mem _ hx)
    refine ⟨e9', ?_⟩
    unfold forLD
    simp only [tgN_ap, List.set_cons_succ, List.set_cons_zero, step]
    exact q
theorem odd3_loop {cs : List PyData} {l : Nat} (e0 e1 e2 e3 e4 e6 e7 e8 e10 e11 : Option EV) (S : Store) (h : Mv S l cs) : ∀ (evs : List EV) (e9 : Option EV), (∀ ev, ev ∈ evs → NoIx S cs.length ev) →
    ∃ e9', forLD (tgN 9) b_law_k42_3 evs [e0, e1, e2, e3, e4, some (.ref l), e6, e7, e8, e9, e10, e11] S = .next [e0, e1, e2, e3, e4, some (.ref l), e6, e7, e8, e9', e10, e11] S
  | [], e9, _ => ⟨e9, rfl⟩
  | ev :: evs, e9, hv => by
    have hn := hv ev List.mem_cons_self
    have o1 := out1_no h hn
    have step : b_law_k42_3 [e0, e1, e2, e3, e4, some (.ref l), e6, e7, e8, some ev, e10, e11] S = .next [e0, e1, e2, e3, e4, some (.ref l), e6, e7, e8, some ev, e10, e11] S := by
      unfold b_law_k42_3
      simp [hn.read, hn.fixed, o1, neG_sh shaped_ind shaped_ind, eqv_selfV shaped_ind]
    obtain ⟨e9', q⟩ := odd3_loop e0 e1 e2 e3 e4 e6 e7 e8 e10 e11 S h evs (some ev) fun x hx => hv x (List.mem_cons_of_mem _ hx)
    refine ⟨e9', ?_⟩
    unfold forLD
    simp only [tgN_ap, List.set_cons_succ, List.set_cons_zero, step]
    exact q
@[simp] theorem forLE_ap {fs : List DE} {t : DG} {g : DS} {env : DL.Env} {S : Store} : forLE fs t g env S = (asL fs env S).bindS env fun xs S1 => forLD t g xs env S1 := rfl
@[simp] theorem lstOE_ap {fs : List DE} {env : DL.Env} {S : Store} : lstOE fs env S = (asL fs env S).bind fun _ S1 => .ok (.tag .lo) S1 := rfl
@[simp] theorem RA_bindS_ok {vs : List EV} {S : Store} {env : DL.Env} {k : List EV → Store → RS} : (RA.ok vs S).bindS env k = k vs S := rfl
@[simp] theorem fixed_tag {t : Tag} : (EV.tag t).fixed = some (.tag t) := rfl
theorem k42_cell (ns : List Int) (k : Nat) (hk : k ≤ 1000) (a2 a3 a4 a5 a6 a7 a8 a9 a10 a11 : Option EV) (S : Store) : (b_law_k42_4 [some (.scr ns), some (.d (.int (k : Nat))), a2, a3, a4, a5, a6, a7, a8, a9, a10, a11] S).isNext fun e s => ∃ c1 c2 c3 c4 c5 c6 c7 c8 c9 c10 c11, e = [some (.scr ns), c1, c2, c3, c4, c5, c6, c7, c8, c9, c10, c11] := by
  obtain ⟨a, b, q1, q2, q3, q4⟩ := source ns k hk S
  have h0 := drw_new (S := S) q2 q3 q4
  generalize hS0 : (S ++ [Cell.lst [.int a, .int b]] : Store) = S0 at h0
  generalize hl : S.length = l at h0
  obtain ⟨cs, S1, c1, c2, c3, h1⟩ := script h0 (most := 4) (by omega)
  obtain ⟨ds, S2, d1, d2, d3, h2⟩ := script h1 (most := 3) (by omega)
  have c3' : F__law_script [.ref l, .d (.int 4)] S0 = _ := c3
  have d3' : F__law_script [.ref l, .d (.int 3)] S1 = _ := d3
  have hc : Scr cs := ⟨c1, c2⟩
  have hd : Scr ds := ⟨d1, by omega⟩
  obtain ⟨l1, S3, m1, m2, m3, m4⟩ := made hc S2
  obtain ⟨l2, S4, n1, n2, n3, n4⟩ := made hd S3
  have hlt : l1 < S3.length := (List.getElem?_eq_some_iff.mp m2).1
  have g1 : Mv S4 l1 cs := n3.mv m2
  have g2 : Mv S4 l2 ds := n2
  obtain ⟨S5, o1, o2⟩ := out0 g1 g2 hc hd
  have k1 := o2.mv g1
  have k2 := o2.mv g2
  obtain ⟨e8, S6, r1, r2⟩ := at_loop hc (some (.scr ns)) (some (.d (.int (k : Nat)))) (some (.ref l)) (some (.d (.tuple ds))) (some (.ref l2)) (some (.d (dueD cs ds))) a9 a10 a11 (rngL 0 cs.length) a8 S5 rng_lt k1
  have t1 := r2.mv k1
  have t2 := r2.mv k2
  obtain ⟨e9, u1⟩ := odd2_loop (some (.scr ns)) (some (.d (.int (k : Nat)))) (some (.ref l)) (some (.d (.tuple cs))) (some (.d (.tuple ds))) (some (.ref l2)) (some (.d (dueD cs ds))) e8 a10 a11 S6 t1 [.d .none, .d (.tuple ds), .d (.int 2), .d (.str "a"), .tag .lo] a9 (fun ev hev => by
    simp only [List.mem_cons, List.not_mem_nil, or_false] at hev
    rcases hev with rfl | rfl | rfl | rfl | rfl <;> first | exact .d _ | exact .lo)
  obtain ⟨e9', u2⟩ := odd3_loop (some (.scr ns)) (some (.d (.int (k : Nat)))) (some (.ref l)) (some (.d (.tuple cs))) (some (.d (.tuple ds))) (some (.ref l2)) (some (.d (dueD cs ds))) e8 a10 a11 S6 t1 [.d (.int (-1)), .d (.int (cs.length : Nat)), .d .none, .d (.bool true), .d (.str "1"), .ref l2] e9 (fun ev hev => by
    simp only [List.mem_cons, List.not_mem_nil, or_false] at hev
    rcases hev with rfl | rfl | rfl | rfl | rfl | rfl
    · exact .i _ (by omega)
    · exact .i _ (by omega)
    · exact .n
    · exact .b _
    · exact .s _
    · exact .o _ _ t2)
  have sh := due_sh hc hd
  have s1 : (asgF 2 (refE (callE (F__law_source) (asL [rdE 0, rdE 1])))) [some (.scr ns), some (.d (.int (k : Nat))), a2, a3, a4, a5, a6, a7, a8, a9, a10, a11] S = .next [some (.scr ns), some (.d (.int (k : Nat))), some (.ref l), a3, a4, a5, a6, a7, a8, a9, a10, a11] S0 := by
    simp [q1, hS0, hl]
  have s2 : (parO 3 4 (callE (F__law_script) (asL [rdE 2, cE (.int 4)])) (callE (F__law_script) (asL [rdE 2, cE (.int 3)]))) [some (.scr ns), some (.d (.int (k : Nat))), some (.ref l), a3, a4, a5, a6, a7, a8, a9, a10, a11] S0 = .next [some (.scr ns), some (.d (.int (k : Nat))), some (.ref l), some (.d (.tuple cs)), some (.d (.tuple ds)), a5, a6, a7, a8, a9, a10, a11] S2 := by
    simp [c3', d3']
  have s3 : (parO 5 6 (callE (F__law_made) (asL [rdE 3])) (callE (F__law_made) (asL [rdE 4]))) [some (.scr ns), some (.d (.int (k : Nat))), some (.ref l), some (.d (.tuple cs)), some (.d (.tuple ds)), a5, a6, a7, a8, a9, a10, a11] S2 = .next [some (.scr ns), some (.d (.int (k : Nat))), some (.ref l), some (.d (.tuple cs)), some (.d (.tuple ds)), some (.ref l1), some (.ref l2), a7, a8, a9, a10, a11] S4 := by
    simp [m1, n1]
  have had := addG_tuple (xs := cs) (ys := ds) (by omega)
  have s4 : (asgF 7 (ifE (ltE (addE (lenE (rdE 3)) (lenE (rdE 4))) (cE (.int 5))) (addE (rdE 3) (rdE 4)) (cE (.str ("many4" : Str))))) [some (.scr ns), some (.d (.int (k : Nat))), some (.ref l), some (.d (.tuple cs)), some (.d (.tuple ds)), some (.ref l1), some (.ref l2), a7, a8, a9, a10, a11] S4 = .next [some (.scr ns), some (.d (.int (k : Nat))), some (.ref l), some (.d (.tuple cs)), some (.d (.tuple ds)), some (.ref l1), some (.ref l2), some (.d (dueD cs ds)), a8, a9, a10, a11] S4 := by
    unfold dueD
    by_cases hle : cs.length + ds.length ≤ 4
    · simp [show (cs.length : Int) + ds.length < 5 by omega, hle, had]
    · simp [show ¬ (cs.length : Int) + ds.length < 5 by omega, hle]
  have s5 : (ifS (orE (neE (callE (F__law_outcome_k42) (asL [cE (.int 0), rdE 5, rdE 6])) (rdE 7)) (orE (neE (fldE ("Moves" : Str) ("all" : Str) (rdE 5)) (rdE 3)) (neE (fldE ("Moves" : Str) ("all" : Str) (rdE 6)) (rdE 4)))) (retS (cE (.bool false))) (nopS)) [some (.scr ns), some (.d (.int (k : Nat))), some (.ref l), some (.d (.tuple cs)), some (.d (.tuple ds)), some (.ref l1), some (.ref l2), some (.d (dueD cs ds)), a8, a9, a10, a11] S4 = .next [some (.scr ns), some (.d (.int (k : Nat))), some (.ref l), some (.d (.tuple cs)), some (.d (.tuple ds)), some (.ref l1), some (.ref l2), some (.d (dueD cs ds)), a8, a9, a10, a11] S5 := by
    simp [o1, neG_sh sh sh, eqv_selfV sh, fld_all k1, fld_all k2, neG_sh hc.sh hc.sh, eqv_selfV hc.sh, neG_sh hd.sh hd.sh, eqv_selfV hd.sh]
  have s6 : (forS (rng1 (lenE (rdE 3))) (tgN 8) (b_law_k42_1)) [some (.scr ns), some (.d (.int (k : Nat))), some (.ref l), some (.d (.tuple cs)), some (.d (.tuple ds)), some (.ref l1), some (.ref l2), some (.d (dueD cs ds)), a8, a9, a10, a11] S5 = .next [some (.scr ns), some (.d (.int (k : Nat))), some (.ref l), some (.d (.tuple cs)), some (.d (.tuple ds)), some (.ref l1), some (.ref l2), some (.d (dueD cs ds)), e8, a9, a10, a11] S6 := by
    have : rngK (.d (.int (cs.length : Nat))) S5 = _ := rngK_nat (k := cs.length) (by omega)
    simp [this, r1]
  have s7 : (forLE [cE .none, rdE 4, cE (.int 2), cE (.str ("a" : Str)), lstOE [rdE 6]] (tgN 9) (b_law_k42_2)) [some (.scr ns), some (.d (.int (k : Nat))), some (.ref l), some (.d (.tuple cs)), some (.d (.tuple ds)), some (.ref l1), some (.ref l2), some (.d (dueD cs ds)), e8, a9, a10, a11] S6 = .next [some (.scr ns), some (.d (.int (k : Nat))), some (.ref l), some (.d (.tuple cs)), some (.d (.tuple ds)), some (.ref l1), some (.ref l2), some (.d (dueD cs ds)), e8, e9, a10, a11] S6 := by
    simp [u1]
  have s8 : (forLE [negE (cE (.int 1)), lenE (rdE 3), cE .none, cE (.bool true), cE (.str ("1" : Str)), rdE 6] (tgN 9) (b_law_k42_3)) [some (.scr ns), some (.d (.int (k : Nat))), some (.ref l), some (.d (.tuple cs)), some (.d (.tuple ds)), some (.ref l1), some (.ref l2), some (.d (dueD cs ds)), e8, e9, a10, a11] S6 = .next [some (.scr ns), some (.d (.int (k : Nat))), some (.ref l), some (.d (.tuple cs)), some (.d (.tuple ds)), some (.ref l1), some (.ref l2), some (.d (dueD cs ds)), e8, e9', a10, a11] S6 := by
    simp [negG, u2]
  have s9 : (asgF 10 (rdE 5)) [some (.scr ns), some (.d (.int (k : Nat))), some (.ref l), some (.d (.tuple cs)), some (.d (.tuple ds)), some (.ref l1), some (.ref l2), some (.d (dueD cs ds)), e8, e9', a10, a11] S6 = .next [some (.scr ns), some (.d (.int (k : Nat))), some (.ref l), some (.d (.tuple cs)), some (.d (.tuple ds)), some (.ref l1), some (.ref l2), some (.d (dueD cs ds)), e8, e9', some (.ref l1), a11] S6 := by
    simp
  have s10 : ∃ S7, (ifS (orE (neE (callE (F__law_outcome_k42) (asL [cE (.int 2), rdE 5, rdE 6])) (rdE 7)) (neE (fldE ("Moves" : Str) ("all" : Str) (rdE 10)) (ifE (eqE (rdE 7) (cE (.str ("many4" : Str)))) (rdE 3) (rdE 7)))) (retS (cE (.bool false))) (nopS)) [some (.scr ns), some (.d (.int (k : Nat))), some (.ref l), some (.d (.tuple cs)), some (.d (.tuple ds)), some (.ref l1), some (.ref l2), some (.d (dueD cs ds)), e8, e9', some (.ref l1), a11] S6 = .next [some (.scr ns), some (.d (.int (k : Nat))), some (.ref l), some (.d (.tuple cs)), some (.d (.tuple ds)), some (.ref l1), some (.ref l2), some (.d (dueD cs ds)), e8, e9', some (.ref l1), a11] S7 := by
    have o := out2_ok t1 t2 hc hd
    unfold dueD at sh ⊢
    by_cases hle : cs.length + ds.length ≤ 4
    · rw [if_pos hle] at o sh
      have w1 : Mv (S6.set l1 (mvO (cs ++ ds))) l1 (cs ++ ds) := by
        unfold Mv
        rw [List.getElem?_set_self (List.getElem?_eq_some_iff.mp t1).1]
      refine ⟨S6.set l1 (mvO (cs ++ ds)), ?_⟩
      have ne : PyData.eqv (.tuple (cs ++ ds)) (.str "many4") = false := by simp [PyData.eqv]
      simp [hle, o, neG_sh sh sh, eqv_selfV sh, fld_all w1, eqG_sh sh shaped_many, ne]
    · rw [if_neg hle] at o sh
      refine ⟨S6, ?_⟩
      simp [hle, o, neG_sh sh sh, eqv_selfV sh, fld_all t1, eqG_sh shaped_many shaped_many, eqv_selfV shaped_many, neG_sh hc.sh hc.sh, eqv_selfV hc.sh]
  obtain ⟨S7, s10⟩ := s10
  unfold b_law_k42_4
  rw [seqS_ap, s1, RS.bind_next, seqS_ap, s2, RS.bind_next, seqS_ap, s3, RS.bind_next, seqS_ap, s4, RS.bind_next, seqS_ap, s5, RS.bind_next, seqS_ap, s6, RS.bind_next, seqS_ap, s7, RS.bind_next, seqS_ap, s8, RS.bind_next, seqS_ap, s9, RS.bind_next, s10]
  exact ⟨_, _, _, _, _, _, _, _, _, _, _, rfl⟩
def ca1 : List PyData := [.tuple [.str "up", .str "a"], .tuple [.str "group", .str "a", .str "b", .str "c"]]
def ca2 : List PyData := [.tuple [.str "back", .str "c"], .tuple [.str "ungroup", .str "c"]]
theorem nd3 : ([.str "a", .str "b", .str "c"] : List PyData).Nodup := by
  simp
  exact ⟨⟨by decide +kernel, by decide +kernel⟩, by decide +kernel⟩
theorem scr1 : Scr ca1 := ⟨fun c hc => by
  simp only [ca1, List.mem_cons, List.not_mem_nil, or_false] at hc
  rcases hc with rfl | rfl
  · exact cmd_mk (by decide +kernel) (by simp) (by decide +kernel) (by simp)
  · exact cmd_mk (by decide +kernel) nd3 (by decide +kernel) (by simp), by simp [ca1]⟩
theorem scr2 : Scr ca2 := ⟨fun c hc => by
  simp only [ca2, List.mem_cons, List.not_mem_nil, or_false] at hc
  rcases hc with rfl | rfl
  · exact cmd_mk (by decide +kernel) (by simp) (by decide +kernel) (by simp)
  · exact cmd_mk (by decide +kernel) (by simp) (by decide +kernel) (by simp), by simp [ca2]⟩
theorem k42_loop (ns : List Int) : ∀ (xs : List PyData) (a1 a2 a3 a4 a5 a6 a7 a8 a9 a10 a11 : Option EV) (S : Store), (∀ x, x ∈ xs → ∃ k : Nat, x = .int (k : Nat) ∧ k ≤ 1000) → ∃ b1 b2 b3 b4 b5 b6 b7 b8 b9 b10 b11 S', forD (tgN 1) b_law_k42_4 xs [some (.scr ns), a1, a2, a3, a4, a5, a6, a7, a8, a9, a10, a11] S = .next [some (.scr ns), b1, b2, b3, b4, b5, b6, b7, b8, b9, b10, b11] S'
  | [], a1, a2, a3, a4, a5, a6, a7, a8, a9, a10, a11, S, _ => ⟨_, _, _, _, _, _, _, _, _, _, _, S, rfl⟩
  | x :: xs, a1, a2, a3, a4, a5, a6, a7, a8, a9, a10, a11, S, h => by
    obtain ⟨k, rfl, hk⟩ := h x List.mem_cons_self
    obtain ⟨_, S1, e, c1, c2, c3, c4, c5, c6, c7, c8, c9, c10, c11, rfl⟩ := (k42_cell ns k hk a2 a3 a4 a5 a6 a7 a8 a9 a10 a11 S).elim
    obtain ⟨b1, b2, b3, b4, b5, b6, b7, b8, b9, b10, b11, S', e2⟩ := k42_loop ns xs c1 c2 c3 c4 c5 c6 c7 c8 c9 c10 c11 S1 fun x hx => h x (List.mem_cons_of_mem _ hx)
    refine ⟨b1, b2, b3, b4, b5, b6, b7, b8, b9, b10, b11, S', ?_⟩
    unfold forD
    simp only [tgN_ap, List.set_cons_succ, List.set_cons_zero, e]
    exact e2
theorem k42_last (ns : List Int) (a1 a2 a3 a4 a5 a6 a7 a8 a9 a10 a11 : Option EV) (S : Store) : ∃ S', (seqS (asgF 11 (ownE ("Moves" : Str) F_Moves___add__ (makeE ("Moves" : Str) F_Moves___init__ (asL [tupE [cE (.str ("up" : Str)), cE (.str ("a" : Str))], tupE [cE (.str ("group" : Str)), cE (.str ("a" : Str)), cE (.str ("b" : Str)), cE (.str ("c" : Str))]])) (makeE ("Moves" : Str) F_Moves___init__ (asL [tupE [cE (.str ("back" : Str)), cE (.str ("c" : Str))], tupE [cE (.str ("ungroup" : Str)), cE (.str ("c" : Str))]])))) (retS (andE (eqE (lenOwnE ("Moves" : Str) F_Moves___len__ (rdE 11)) (cE (.int 4))) (andE (eqE (ixOwnE ("Moves" : Str) F_Moves___getitem__ (rdE 11) (cE (.int 2))) (tupE [cE (.str ("back" : Str)), cE (.str ("c" : Str))])) (eqE (fldE ("Moves" : Str) ("all" : Str) (ownE ("Moves" : Str) F_Moves___sub__ (rdE 11) (cE (.int 0)))) (slE (fldE ("Moves" : Str) ("all" : Str) (rdE 11)) (some (cE (.int 1))) none)))))) [some (.scr ns), a1, a2, a3, a4, a5, a6, a7, a8, a9, a10, a11] S = .ret (.d (.bool true)) S' := by
  have m1 : makeK "Moves" F_Moves___init__ [.d (.tuple [.str "up", .str "a"]), .d (.tuple [.str "group", .str "a", .str "b", .str "c"])] S = _ := mv_make scr1 S
  have m2 : makeK "Moves" F_Moves___init__ [.d (.tuple [.str "back", .str "c"]), .d (.tuple [.str "ungroup", .str "c"])] (S ++ [mvO ca1]) = _ := mv_make scr2 (S ++ [mvO ca1])
  have g1 : Mv (S ++ [mvO ca1] ++ [mvO ca2]) S.length ca1 := (ext_app _ _).mv (mv_last S ca1)
  have g2 : Mv (S ++ [mvO ca1] ++ [mvO ca2]) (S ++ [mvO ca1]).length ca2 := mv_last _ _
  have ad := add_ok g1 g2 scr1 scr2
  rw [if_pos (by simp [ca1, ca2])] at ad
  have s12 : Scr (ca1 ++ ca2) := scr1.app scr2 (by simp [ca1, ca2])
  generalize hS2 : (S ++ [mvO ca1] ++ [mvO ca2] : Store) = S2 at *
  have g3 : Mv (S2 ++ [mvO (ca1 ++ ca2)]) S2.length (ca1 ++ ca2) := mv_last _ _
  generalize hS3 : (S2 ++ [mvO (ca1 ++ ca2)] : Store) = S3 at *
  generalize hl3 : S2.length = l3 at *
  have g3' : S3[l3]? = some (.obj "Moves" [("all", .d (.tuple (ca1 ++ ca2)))]) := g3
  have ow := ownK_mv (Ff := F_Moves___add__) g1 (ev := .ref (S ++ [mvO ca1]).length) rfl (okTy_mv g2)
  have hlen : F_Moves___len__ [.ref l3] S3 = .ok (.d (.int 4)) S3 := by
    show endF (g_Moves___len__ [some (.ref l3)] S3) = _
    unfold g_Moves___len__
    simp [fld_all g3]
    rfl
  have hix : F_Moves___getitem__ [.ref l3, .d (.int 2)] S3 = .ok (.d (.tuple [.str "back", .str "c"])) S3 := by
    show endF (g_Moves___getitem__ [some (.ref l3), some (.d (.int 2))] S3) = _
    have ix := index_ok (a := ca1 ++ ca2) (i := 2) (by simp [ca1, ca2]) S3
    have ix' : F_need_index [.d (.tuple (ca1 ++ ca2)), .d (.int 2)] S3 = _ := ix
    have hat : ixG (.tuple (ca1 ++ ca2)) (.int 2) = some (.d (.tuple [.str "back", .str "c"])) := by rfl
    unfold g_Moves___getitem__
    simp [fld_all g3, ix', hat]
  have sb := sub_ok g3 s12 (i := 0) (by simp [ca1, ca2])
  have sb' : F_Moves___sub__ [.ref l3, .d (.int 0)] S3 = _ := sb
  have ow2 := ownK_mv (Ff := F_Moves___sub__) g3 (ev := .d (.int 0)) rfl rfl
  have g4 := mv_last S3 ((ca1 ++ ca2).take 0 ++ (ca1 ++ ca2).drop (0 + 1))
  have g5 := (ext_app S3 [mvO ((ca1 ++ ca2).take 0 ++ (ca1 ++ ca2).drop (0 + 1))]).mv g3
  have sh := (s12.del 0).sh
  have shb : SeqAt.shaped (.tuple [.str "back", .str "c"]) = true := by decide +kernel
  have cut : slG (.tuple (ca1 ++ ca2)) (some 1) none = some (.d (.tuple ((ca1 ++ ca2).take 0 ++ (ca1 ++ ca2).drop (0 + 1)))) := by rfl
  generalize hX : ((ca1 ++ ca2).take 0 ++ (ca1 ++ ca2).drop (0 + 1)) = X at *
  have t1 : (asgF 11 (ownE ("Moves" : Str) F_Moves___add__ (makeE ("Moves" : Str) F_Moves___init__ (asL [tupE [cE (.str ("up" : Str)), cE (.str ("a" : Str))], tupE [cE (.str ("group" : Str)), cE (.str ("a" : Str)), cE (.str ("b" : Str)), cE (.str ("c" : Str))]])) (makeE ("Moves" : Str) F_Moves___init__ (asL [tupE [cE (.str ("back" : Str)), cE (.str ("c" : Str))], tupE [cE (.str ("ungroup" : Str)), cE (.str ("c" : Str))]])))) [some (.scr ns), a1, a2, a3, a4, a5, a6, a7, a8, a9, a10, a11] S = .next [some (.scr ns), a1, a2, a3, a4, a5, a6, a7, a8, a9, a10, some (.ref l3)] S3 := by
    simp [m1, m2]
    simp at ow
    rw [ow]
    simp at ad
    rw [ad]
    rfl
  have t2 : (lenOwnE ("Moves" : Str) F_Moves___len__ (rdE 11)) [some (.scr ns), a1, a2, a3, a4, a5, a6, a7, a8, a9, a10, some (.ref l3)] S3 = .ok (.d (.int 4)) S3 := by
    simp [lenOwnE, lenOwnK, g3', hlen]
  have t3 : (ixOwnE ("Moves" : Str) F_Moves___getitem__ (rdE 11) (cE (.int 2))) [some (.scr ns), a1, a2, a3, a4, a5, a6, a7, a8, a9, a10, some (.ref l3)] S3 = .ok (.d (.tuple [.str "back", .str "c"])) S3 := by
    simp [ixOwnE, ixOwnK, g3', hix]
  refine ⟨S3 ++ [mvO X], ?_⟩
  rw [seqS_ap, t1, RS.bind_next]
  simp [t2, t3, eqi, eqG_sh shb shb, eqv_selfV shb, ow2, sb', fld_all g4, fld_all g5, cut, eqG_sh sh sh, eqv_selfV sh]
theorem k42 (ns : List Int) (hl : ns.length ≤ 63) : ∃ S', F_law_k42 [.scr ns] [] = .ok (.d (.bool true)) S' := by
  obtain ⟨m, hm1, hm2⟩ := count_ok 5 16 ns.length
  obtain ⟨b1, b2, b3, b4, b5, b6, b7, b8, b9, b10, b11, S1, e⟩ := k42_loop ns (rngL 0 m) none none none none none none none none none none none [] (rng_ok (by omega))
  obtain ⟨S', e3⟩ := k42_last ns b1 b2 b3 b4 b5 b6 b7 b8 b9 b10 b11 S1
  refine ⟨S', ?_⟩
  show endF (g_law_k42 [some (.scr ns), none, none, none, none, none, none, none, none, none, none, none] []) = _
  unfold g_law_k42
  have s2 : (forS (rng1 (maxE (cE (.int 5)) (minE (cE (.int 16)) (lenE (rdE 0))))) (tgN 1) (b_law_k42_4)) [some (.scr ns), none, none, none, none, none, none, none, none, none, none, none] [] = .next [some (.scr ns), b1, b2, b3, b4, b5, b6, b7, b8, b9, b10, b11] S1 := by
    have : (maxE (cE (.int 5)) (minE (cE (.int 16)) (lenE (rdE 0)))) [some (.scr ns), none, none, none, none, none, none, none, none, none, none, none] [] = .ok (.d (.int (m : Nat))) [] := by
      rw [← hm2]
      simp
    rw [forS_ap, rng1_ap, this, RE.bind_ok, rngK_nat (by omega), RE.bindS_ok]
    exact e
  rw [seqS_ap, s2, RS.bind_next, e3]
  rfl
end P

set_option Elab.async false
set_option linter.all false
set_option maxRecDepth 100000
set_option maxHeartbeats 0
namespace K42
open PySem PySem.Spec PyProof.Rows L2 DL U
def top (i : Nat) : Stmt := PySem.Challenge.pw_toparranged_k42_moves_put_together.main.body.getD i (.Pass ⟨0, 0, 0, 0⟩)
abbrev s_is_name : Stmt := top 15
abbrev s_is_right_command : Stmt := top 22
abbrev s_is_right_script : Stmt := top 23
abbrev s_need_script : Stmt := top 29
abbrev s_without : Stmt := top 48
abbrev s_need_index : Stmt := top 52
abbrev s_Moves___init__ : Stmt := (clsBody (top 53)).getD 1 (.Pass ⟨0, 0, 0, 0⟩)
abbrev s_Moves_joined : Stmt := (clsBody (top 53)).getD 4 (.Pass ⟨0, 0, 0, 0⟩)
abbrev s_Moves___getitem__ : Stmt := (clsBody (top 53)).getD 6 (.Pass ⟨0, 0, 0, 0⟩)
abbrev s_Moves___len__ : Stmt := (clsBody (top 53)).getD 8 (.Pass ⟨0, 0, 0, 0⟩)
abbrev s_Moves___add__ : Stmt := (clsBody (top 53)).getD 11 (.Pass ⟨0, 0, 0, 0⟩)
abbrev s_Moves___sub__ : Stmt := (clsBody (top 53)).getD 12 (.Pass ⟨0, 0, 0, 0⟩)
abbrev s_Moves___iadd__ : Stmt := (clsBody (top 53)).getD 14 (.Pass ⟨0, 0, 0, 0⟩)
abbrev s__law_source : Stmt := top 55
abbrev s__law_pick : Stmt := top 56
abbrev s__law_chosen : Stmt := top 57
abbrev s__law_three : Stmt := top 58
abbrev s__law_command : Stmt := top 59
abbrev s__law_script : Stmt := top 60
abbrev s__law_made : Stmt := top 61
abbrev s__law_outcome : Stmt := top 62
abbrev s_law : Stmt := top 63
abbrev s_Moves_commands : Stmt := (clsBody (top 53)).getD 3 (.Pass ⟨0, 0, 0, 0⟩)
abbrev sx_TooMany : Stmt := (clsBody (top 6)).getD 0 (.Pass ⟨0, 0, 0, 0⟩)
def excs : List Str := [("InvalidIndex" : Str), ("InvalidScript" : Str)]
def excA : List Str := [("InvalidIndex" : Str), ("InvalidScript" : Str), ("TooMany" : Str)]
structure Names (P : Program) (K : PySem.W.Frag) (mg : Str → Option Value) (ca : Str → Addr) where
  n_is_name : Own K mg ("is_name" : Str) s_is_name
  n_is_right_command : Own K mg ("is_right_command" : Str) s_is_right_command
  n_is_right_script : Own K mg ("is_right_script" : Str) s_is_right_script
  n_need_script : Own K mg ("need_script" : Str) s_need_script
  n_without : Own K mg ("without" : Str) s_without
  n_need_index : Own K mg ("need_index" : Str) s_need_index
  n_Moves___init__ : MthO K ca ("Moves" : Str) ("__init__" : Str) ("Moves.__init__" : Str) s_Moves___init__
  n_Moves_joined : MthO K ca ("Moves" : Str) ("joined" : Str) ("Moves.joined" : Str) s_Moves_joined
  n_Moves___getitem__ : MthO K ca ("Moves" : Str) ("__getitem__" : Str) ("Moves.__getitem__" : Str) s_Moves___getitem__
  n_Moves___len__ : MthO K ca ("Moves" : Str) ("__len__" : Str) ("Moves.__len__" : Str) s_Moves___len__
  n_Moves___add__ : MthO K ca ("Moves" : Str) ("__add__" : Str) ("Moves.__add__" : Str) s_Moves___add__
  n_Moves___sub__ : MthO K ca ("Moves" : Str) ("__sub__" : Str) ("Moves.__sub__" : Str) s_Moves___sub__
  n_Moves___iadd__ : MthO K ca ("Moves" : Str) ("__iadd__" : Str) ("Moves.__iadd__" : Str) s_Moves___iadd__
  n__law_source : Own K mg ("_law_source" : Str) s__law_source
  n__law_pick : Own K mg ("_law_pick" : Str) s__law_pick
  n__law_chosen : Own K mg ("_law_chosen" : Str) s__law_chosen
  n__law_three : Own K mg ("_law_three" : Str) s__law_three
  n__law_command : Own K mg ("_law_command" : Str) s__law_command
  n__law_script : Own K mg ("_law_script" : Str) s__law_script
  n__law_made : Own K mg ("_law_made" : Str) s__law_made
  n__law_outcome : Own K mg ("_law_outcome" : Str) s__law_outcome
  n_law : Own K mg ("law" : Str) s_law
  k_Moves : ClsN K mg ca ("Moves" : Str)
  mk_Moves : Mk K (ca ("Moves" : Str)) n_Moves___init__.f
  a_Moves_all : NoAttr K (ca ("Moves" : Str)) ("all" : Str)
  p_Moves_commands : PropN K ca ("Moves" : Str) ("commands" : Str) ("all" : Str)
  i_Moves : IsC K (ca ("Moves" : Str))
  ib_Moves : IsB K (ca ("Moves" : Str))
  o_Moves___add__ : OpC K (ca ("Moves" : Str)) n_Moves___add__.f .Add
  o_Moves___sub__ : OpC K (ca ("Moves" : Str)) n_Moves___sub__.f .Sub
  u_Moves___iadd__ : AugC K (ca ("Moves" : Str)) n_Moves___iadd__.f .Add
  w_Moves___len__ : OwM K (ca ("Moves" : Str)) ("__len__" : Str) n_Moves___len__.f
  w_Moves___getitem__ : OwM K (ca ("Moves" : Str)) ("__getitem__" : Str) n_Moves___getitem__.f
  f_TooMany : ExcF P K mg ca ("TooMany" : Str) ("limit" : Str) ("limit" : Str) 10
  c_NAMES : Cst K mg ("NAMES" : Str) (.tuple [(.str ("a" : Str)), (.str ("b" : Str)), (.str ("c" : Str))])
  c_ALONE : Cst K mg ("ALONE" : Str) (.tuple [(.str ("front" : Str)), (.str ("back" : Str)), (.str ("up" : Str)), (.str ("down" : Str)), (.str ("ungroup" : Str))])
  c_BESIDE : Cst K mg ("BESIDE" : Str) (.tuple [(.str ("above" : Str)), (.str ("below" : Str))])
  c_MOST_COMMANDS : Cst K mg ("MOST_COMMANDS" : Str) (.int 4)
  x_InvalidIndex : ExcN K mg ca ("InvalidIndex" : Str)
  x_InvalidScript : ExcN K mg ca ("InvalidScript" : Str)
  exm : ∀ x ∈ excA, ∀ y ∈ excA, PySem.W.exmOne K (.ref (ca x)) (.ref (ca y)) = some (exSub x y)
  b_all : mg ("all" : Str) = none
  b_bool : mg ("bool" : Str) = none
  b_int : mg ("int" : Str) = none
  b_isinstance : mg ("isinstance" : Str) = none
  b_len : mg ("len" : Str) = none
  b_list : mg ("list" : Str) = none
  b_max : mg ("max" : Str) = none
  b_min : mg ("min" : Str) = none
  b_range : mg ("range" : Str) = none
  b_set : mg ("set" : Str) = none
  b_str : mg ("str" : Str) = none
  b_super : mg ("super" : Str) = none
  b_tuple : mg ("tuple" : Str) = none
section
variable {P : Program} {K : PySem.W.Frag} {mg : Str → Option Value} {ca : Str → Addr}
theorem Names.bn_is_name (n : Names P K mg ca) : Binds K n.n_is_name.fd [("value" : Str)] [] := n.n_is_name.fn.bindsN fun _ _ _ _ _ _ us hl => match us, hl with | [_], _ => rfl
theorem Names.bn_is_right_command (n : Names P K mg ca) : Binds K n.n_is_right_command.fd [("value" : Str)] [] := n.n_is_right_command.fn.bindsN fun _ _ _ _ _ _ us hl => match us, hl with | [_], _ => rfl
theorem Names.bn_is_right_script (n : Names P K mg ca) : Binds K n.n_is_right_script.fd [("value" : Str)] [] := n.n_is_right_script.fn.bindsN fun _ _ _ _ _ _ us hl => match us, hl with | [_], _ => rfl
theorem Names.bn_need_script (n : Names P K mg ca) : Binds K n.n_need_script.fd [("value" : Str)] [] := n.n_need_script.fn.bindsN fun _ _ _ _ _ _ us hl => match us, hl with | [_], _ => rfl
theorem Names.bn_without (n : Names P K mg ca) : Binds K n.n_without.fd [("script" : Str), ("index" : Str)] [] := n.n_without.fn.bindsN fun _ _ _ _ _ _ us hl => match us, hl with | [_, _], _ => rfl
theorem Names.bn_need_index (n : Names P K mg ca) : Binds K n.n_need_index.fd [("commands" : Str), ("value" : Str)] [] := n.n_need_index.fn.bindsN fun _ _ _ _ _ _ us hl => match us, hl with | [_, _], _ => rfl
theorem Names.bn_Moves_joined (n : Names P K mg ca) : Binds K n.n_Moves_joined.fd [("self" : Str), ("other" : Str)] [] := n.n_Moves_joined.fn.bindsN fun _ _ _ _ _ _ us hl => match us, hl with | [_, _], _ => rfl
theorem Names.bn_Moves___getitem__ (n : Names P K mg ca) : Binds K n.n_Moves___getitem__.fd [("self" : Str), ("index" : Str)] [] := n.n_Moves___getitem__.fn.bindsN fun _ _ _ _ _ _ us hl => match us, hl with | [_, _], _ => rfl
theorem Names.bn_Moves___len__ (n : Names P K mg ca) : Binds K n.n_Moves___len__.fd [("self" : Str)] [] := n.n_Moves___len__.fn.bindsN fun _ _ _ _ _ _ us hl => match us, hl with | [_], _ => rfl
theorem Names.bn_Moves___add__ (n : Names P K mg ca) : Binds K n.n_Moves___add__.fd [("self" : Str), ("other" : Str)] [] := n.n_Moves___add__.fn.bindsN fun _ _ _ _ _ _ us hl => match us, hl with | [_, _], _ => rfl
theorem Names.bn_Moves___sub__ (n : Names P K mg ca) : Binds K n.n_Moves___sub__.fd [("self" : Str), ("index" : Str)] [] := n.n_Moves___sub__.fn.bindsN fun _ _ _ _ _ _ us hl => match us, hl with | [_, _], _ => rfl
theorem Names.bn_Moves___iadd__ (n : Names P K mg ca) : Binds K n.n_Moves___iadd__.fd [("self" : Str), ("other" : Str)] [] := n.n_Moves___iadd__.fn.bindsN fun _ _ _ _ _ _ us hl => match us, hl with | [_, _], _ => rfl
theorem Names.bn__law_source (n : Names P K mg ca) : Binds K n.n__law_source.fd [("script" : Str), ("k" : Str)] [] := n.n__law_source.fn.bindsN fun _ _ _ _ _ _ us hl => match us, hl with | [_, _], _ => rfl
theorem Names.bn__law_pick (n : Names P K mg ca) : Binds K n.n__law_pick.fd [("source" : Str), ("many" : Str)] [] := n.n__law_pick.fn.bindsN fun _ _ _ _ _ _ us hl => match us, hl with | [_, _], _ => rfl
theorem Names.bn__law_chosen (n : Names P K mg ca) : Binds K n.n__law_chosen.fd [("source" : Str), ("things" : Str)] [] := n.n__law_chosen.fn.bindsN fun _ _ _ _ _ _ us hl => match us, hl with | [_, _], _ => rfl
theorem Names.bn__law_three (n : Names P K mg ca) : Binds K n.n__law_three.fd [("source" : Str)] [] := n.n__law_three.fn.bindsN fun _ _ _ _ _ _ us hl => match us, hl with | [_], _ => rfl
theorem Names.bn__law_command (n : Names P K mg ca) : Binds K n.n__law_command.fd [("source" : Str)] [] := n.n__law_command.fn.bindsN fun _ _ _ _ _ _ us hl => match us, hl with | [_], _ => rfl
theorem Names.bn__law_script (n : Names P K mg ca) : Binds K n.n__law_script.fd [("source" : Str), ("most" : Str)] [] := n.n__law_script.fn.bindsN fun _ _ _ _ _ _ us hl => match us, hl with | [_, _], _ => rfl
theorem Names.bn__law_made (n : Names P K mg ca) : Binds K n.n__law_made.fd [("deeds" : Str)] [] := n.n__law_made.fn.bindsN fun _ _ _ _ _ _ us hl => match us, hl with | [_], _ => rfl
theorem Names.bn__law_outcome (n : Names P K mg ca) : Binds K n.n__law_outcome.fd [("call" : Str), ("one" : Str), ("value" : Str)] [] := n.n__law_outcome.fn.bindsN fun _ _ _ _ _ _ us hl => match us, hl with | [_, _, _], _ => rfl
theorem Names.bn_law (n : Names P K mg ca) : Binds K n.n_law.fd [("script" : Str)] [] := n.n_law.fn.bindsN fun _ _ _ _ _ _ us hl => match us, hl with | [_], _ => rfl
end
theorem sc_is_name : FnScope [("value" : Str)] [("value" : Str)] (defScope s_is_name) := ⟨rfl, rfl, rfl, by decide +kernel, rfl, by decide +kernel, by decide +kernel⟩
theorem sc_is_right_command : FnScope [("value" : Str), ("names" : Str), ("name" : Str)] [("value" : Str)] (defScope s_is_right_command) := ⟨rfl, rfl, rfl, by decide +kernel, rfl, by decide +kernel, by decide +kernel⟩
theorem sc_is_right_script : FnScope [("value" : Str), ("one" : Str)] [("value" : Str)] (defScope s_is_right_script) := ⟨rfl, rfl, rfl, by decide +kernel, rfl, by decide +kernel, by decide +kernel⟩
theorem sc_need_script : FnScope [("value" : Str)] [("value" : Str)] (defScope s_need_script) := ⟨rfl, rfl, rfl, by decide +kernel, rfl, by decide +kernel, by decide +kernel⟩
theorem sc_without : FnScope [("script" : Str), ("index" : Str)] [("script" : Str), ("index" : Str)] (defScope s_without) := ⟨rfl, rfl, rfl, by decide +kernel, rfl, by decide +kernel, by decide +kernel⟩
theorem sc_need_index : FnScope [("commands" : Str), ("value" : Str)] [("commands" : Str), ("value" : Str)] (defScope s_need_index) := ⟨rfl, rfl, rfl, by decide +kernel, rfl, by decide +kernel, by decide +kernel⟩
theorem sc_Moves___init__ : FnScope [("self" : Str), ("commands" : Str)] [("self" : Str), ("commands" : Str)] (defScope s_Moves___init__) := ⟨rfl, rfl, rfl, by decide +kernel, rfl, by decide +kernel, by decide +kernel⟩
theorem sc_Moves_joined : FnScope [("self" : Str), ("other" : Str)] [("self" : Str), ("other" : Str)] (defScope s_Moves_joined) := ⟨rfl, rfl, rfl, by decide +kernel, rfl, by decide +kernel, by decide +kernel⟩
theorem sc_Moves___getitem__ : FnScope [("self" : Str), ("index" : Str)] [("self" : Str), ("index" : Str)] (defScope s_Moves___getitem__) := ⟨rfl, rfl, rfl, by decide +kernel, rfl, by decide +kernel, by decide +kernel⟩
theorem sc_Moves___len__ : FnScope [("self" : Str)] [("self" : Str)] (defScope s_Moves___len__) := ⟨rfl, rfl, rfl, by decide +kernel, rfl, by decide +kernel, by decide +kernel⟩
theorem sc_Moves___add__ : FnScope [("self" : Str), ("other" : Str), ("commands" : Str)] [("self" : Str), ("other" : Str)] (defScope s_Moves___add__) := ⟨rfl, rfl, rfl, by decide +kernel, rfl, by decide +kernel, by decide +kernel⟩
theorem sc_Moves___sub__ : FnScope [("self" : Str), ("index" : Str), ("commands" : Str)] [("self" : Str), ("index" : Str)] (defScope s_Moves___sub__) := ⟨rfl, rfl, rfl, by decide +kernel, rfl, by decide +kernel, by decide +kernel⟩
theorem sc_Moves___iadd__ : FnScope [("self" : Str), ("other" : Str)] [("self" : Str), ("other" : Str)] (defScope s_Moves___iadd__) := ⟨rfl, rfl, rfl, by decide +kernel, rfl, by decide +kernel, by decide +kernel⟩
theorem sc__law_source : FnScope [("script" : Str), ("k" : Str), ("number" : Str), ("start" : Str)] [("script" : Str), ("k" : Str)] (defScope s__law_source) := ⟨rfl, rfl, rfl, by decide +kernel, rfl, by decide +kernel, by decide +kernel⟩
theorem sc__law_pick : FnScope [("source" : Str), ("many" : Str), ("found" : Str)] [("source" : Str), ("many" : Str)] (defScope s__law_pick) := ⟨rfl, rfl, rfl, by decide +kernel, rfl, by decide +kernel, by decide +kernel⟩
theorem sc__law_chosen : FnScope [("source" : Str), ("things" : Str)] [("source" : Str), ("things" : Str)] (defScope s__law_chosen) := ⟨rfl, rfl, rfl, by decide +kernel, rfl, by decide +kernel, by decide +kernel⟩
theorem sc__law_three : FnScope [("source" : Str)] [("source" : Str)] (defScope s__law_three) := ⟨rfl, rfl, rfl, by decide +kernel, rfl, by decide +kernel, by decide +kernel⟩
theorem sc__law_command : FnScope [("source" : Str), ("one" : Str), ("other" : Str), ("third" : Str), ("way" : Str)] [("source" : Str)] (defScope s__law_command) := ⟨rfl, rfl, rfl, by decide +kernel, rfl, by decide +kernel, by decide +kernel⟩
theorem sc__law_script : FnScope [("source" : Str), ("most" : Str), ("turn" : Str)] [("source" : Str), ("most" : Str)] (defScope s__law_script) := ⟨rfl, rfl, rfl, by decide +kernel, rfl, by decide +kernel, by decide +kernel⟩
theorem sc__law_made : FnScope [("deeds" : Str), ("found" : Str), ("command" : Str)] [("deeds" : Str)] (defScope s__law_made) := ⟨rfl, rfl, rfl, by decide +kernel, rfl, by decide +kernel, by decide +kernel⟩
theorem sc__law_outcome : FnScope [("call" : Str), ("one" : Str), ("value" : Str), ("e" : Str)] [("call" : Str), ("one" : Str), ("value" : Str)] (defScope s__law_outcome) := ⟨rfl, rfl, rfl, by decide +kernel, rfl, by decide +kernel, by decide +kernel⟩
theorem sc_law : FnScope [("script" : Str), ("k" : Str), ("source" : Str), ("deeds" : Str), ("more" : Str), ("one" : Str), ("other" : Str), ("due" : Str), ("at" : Str), ("odd" : Str), ("same" : Str), ("four" : Str)] [("script" : Str)] (defScope s_law) := ⟨rfl, rfl, rfl, by decide +kernel, rfl, by decide +kernel, by decide +kernel⟩
section
variable {P : Program} {w : World} {K : PySem.W.Frag} {mg : Str → Option Value} {base : Heap} {ca : Str → Addr}
theorem ok_is_name (n : Names P K mg ca) : JF P w K mg base ca 1 n.n_is_name.f n.n_is_name.fd [("value" : Str)] F_is_name := fn_mk (N := [("value" : Str)]) (k := 0) n.n_is_name.fn sc_is_name fun cdv A outer s H E hr => (js_one (js_ret (je_and (je_isi (.inl rfl) rfl n.b_isinstance rfl n.b_str PyProof.Rows.boot_str (jv 0)) (je_one (je_in (room65 hr) (jv 0) (je_glob rfl n.c_NAMES.gl n.c_NAMES.rel n.c_NAMES.dr))))))
theorem ok_is_right_command (n : Names P K mg ca) : JF P w K mg base ca 2 n.n_is_right_command.f n.n_is_right_command.fd [("value" : Str)] F_is_right_command := fn_mk (N := [("value" : Str), ("names" : Str), ("name" : Str)]) (k := 1) n.n_is_right_command.fn sc_is_right_command fun cdv A outer s H E hr => (js_cons (js_if (jt_w (jw_or (jt_not (jt_val (je_isi (.inr (.inr (.inr (.inl rfl)))) rfl n.b_isinstance rfl n.b_tuple PyProof.Rows.boot_tuple (jv 0)))) (jw_or (jt_eq hr.units (jv 0) (je_tup ja_nil (Nat.le_of_ble_eq_true rfl))) (jw_or1 (jt_not (jt_val (je_isi (.inl rfl) rfl n.b_isinstance rfl n.b_str PyProof.Rows.boot_str (je_ix (jv 0) je_int)))))))) (js_one (js_ret je_bl)) js_nil) (js_cons (js_set sc_is_right_command.nd rfl (.inl rfl) (je_sl (jv 0) (jo_some je_int) jo_none)) (js_cons (js_if (jt_w (jw_or (jt_not (jt_val (je_all rfl rfl n.b_all (je_lc rfl sc_is_right_command.nd (ji_it (jv 1)) (own := [(("name" : Str), 2)]) (blkOk_by (N := [("value" : Str), ("names" : Str), ("name" : Str)]) (sc := defScope s_is_right_command) (by decide +kernel)) (fun _ _ _ _ _ => (jg_name sc_is_right_command.nd rfl (by first | exact Or.inl rfl | exact Or.inr rfl))) (fun _ _ _ _ _ => jts_nil) (fun _ _ _ _ _ => (je_call (ok_is_name n) (hr.mono (by omega)) takes0 rfl n.n_is_name.gl n.n_is_name.fn.kp (n.bn_is_name) (ja_cons (jv 2) ja_nil))))))) (jw_or1 (jt_lt (je_lenSet rfl rfl n.b_len rfl n.b_set (jv 1)) (je_len rfl n.b_len (jv 1)))))) (js_one (js_ret je_bl)) js_nil) (js_cons (js_if (jt_in (room65 hr) (je_ix (jv 0) je_int) (je_glob rfl n.c_ALONE.gl n.c_ALONE.rel n.c_ALONE.dr)) (js_one (js_ret (je_eq hr.units (je_len rfl n.b_len (jv 1)) je_int))) js_nil) (js_cons (js_if (jt_in (room65 hr) (je_ix (jv 0) je_int) (je_glob rfl n.c_BESIDE.gl n.c_BESIDE.rel n.c_BESIDE.dr)) (js_one (js_ret (je_eq hr.units (je_len rfl n.b_len (jv 1)) je_int))) js_nil) (js_one (js_ret (je_and (je_eq hr.units (je_ix (jv 0) je_int) je_str) (je_one (je_eq hr.units (je_len rfl n.b_len (jv 1)) je_int))))))))))
theorem ok_is_right_script (n : Names P K mg ca) : JF P w K mg base ca 3 n.n_is_right_script.f n.n_is_right_script.fd [("value" : Str)] F_is_right_script := fn_mk (N := [("value" : Str), ("one" : Str)]) (k := 2) n.n_is_right_script.fn sc_is_right_script fun cdv A outer s H E hr => (js_one (js_ret (je_and (je_isi (.inr (.inr (.inr (.inl rfl)))) rfl n.b_isinstance rfl n.b_tuple PyProof.Rows.boot_tuple (jv 0)) (je_and (je_le (je_len rfl n.b_len (jv 0)) (je_glob rfl n.c_MOST_COMMANDS.gl n.c_MOST_COMMANDS.rel n.c_MOST_COMMANDS.dr)) (je_one (je_all rfl rfl n.b_all (je_lc rfl sc_is_right_script.nd (ji_it (jv 0)) (own := [(("one" : Str), 1)]) (blkOk_by (N := [("value" : Str), ("one" : Str)]) (sc := defScope s_is_right_script) (by decide +kernel)) (fun _ _ _ _ _ => (jg_name sc_is_right_script.nd rfl (by first | exact Or.inl rfl | exact Or.inr rfl))) (fun _ _ _ _ _ => jts_nil) (fun _ _ _ _ _ => (je_call (ok_is_right_command n) (hr.mono (by omega)) takes0 rfl n.n_is_right_command.gl n.n_is_right_command.fn.kp (n.bn_is_right_command) (ja_cons (jv 1) ja_nil))))))))))
theorem ok_need_script (n : Names P K mg ca) : JF P w K mg base ca 4 n.n_need_script.f n.n_need_script.fd [("value" : Str)] F_need_script := fn_mk (N := [("value" : Str)]) (k := 3) n.n_need_script.fn sc_need_script fun cdv A outer s H E hr => (js_one (js_if (jt_not (jt_val (je_call (ok_is_right_script n) (hr.mono (by omega)) (takes_of rfl rfl rfl rfl) rfl n.n_is_right_script.gl n.n_is_right_script.fn.kp (n.bn_is_right_script) (ja_cons (jv 0) ja_nil)))) (js_one (js_raise n.x_InvalidScript rfl (takes_of rfl rfl rfl rfl) rfl)) js_nil))
theorem ok_without (n : Names P K mg ca) : JF P w K mg base ca 1 n.n_without.f n.n_without.fd [("script" : Str), ("index" : Str)] F_without := fn_mk (N := [("script" : Str), ("index" : Str)]) (k := 0) n.n_without.fn sc_without fun cdv A outer s H E hr => (js_one (js_ret (je_add (je_sl (jv 0) jo_none (jo_some (jv 1))) (je_sl (jv 0) (jo_some (je_add (jv 1) je_int)) jo_none))))
theorem ok_need_index (n : Names P K mg ca) : JF P w K mg base ca 3 n.n_need_index.f n.n_need_index.fd [("commands" : Str), ("value" : Str)] F_need_index := fn_mk (N := [("commands" : Str), ("value" : Str)]) (k := 2) n.n_need_index.fn sc_need_index fun cdv A outer s H E hr => (js_one (js_if (jt_w (jw_or (jt_not (jt_val (je_isiO (.inr (.inl rfl)) n.i_Moves n.ib_Moves rfl n.b_isinstance rfl n.b_int PyProof.Rows.boot_int (jv 1)))) (jw_or (jt_val (je_isiO (.inr (.inr (.inl rfl))) n.i_Moves n.ib_Moves rfl n.b_isinstance rfl n.b_bool PyProof.Rows.boot_bool (jv 1))) (jw_or1 (jt_not (jt_leLt je_int (jv 1) (je_len rfl n.b_len (jv 0)))))))) (js_one (js_raise n.x_InvalidIndex rfl (takes_of rfl rfl rfl rfl) rfl)) js_nil))
theorem ok_Moves___init__ (n : Names P K mg ca) : ∀ m : Nat, JR P w K mg base ca 5 n.n_Moves___init__.f m F_Moves___init__ := star_mk (N := [("self" : Str), ("commands" : Str)]) (ps := [("self" : Str)]) (k := 4) n.n_Moves___init__.fn sc_Moves___init__ (fun _ _ _ _ _ _ us rest hl => match us, rest, hl with | [_], [], _ => rfl | [_], _ :: _, _ => rfl) fun cdv A outer s H E hr => (js_cons (js_expr (je_call (ok_need_script n) (hr.mono (by omega)) (takes_of rfl rfl rfl rfl) rfl n.n_need_script.gl n.n_need_script.fn.kp (n.bn_need_script) (ja_cons (jv 1) ja_nil))) (js_one (js_fld n.k_Moves.cl n.a_Moves_all (jv 0) (jv 1))))
theorem ok_Moves_joined (n : Names P K mg ca) : JF P w K mg base ca 3 n.n_Moves_joined.f n.n_Moves_joined.fd [("self" : Str), ("other" : Str)] F_Moves_joined := fn_mk (N := [("self" : Str), ("other" : Str)]) (k := 2) n.n_Moves_joined.fn sc_Moves_joined fun cdv A outer s H E hr => (js_cons (js_if (jt_not (jt_val (je_isiC n.i_Moves rfl n.b_isinstance rfl n.k_Moves.gl (jv 1)))) (js_one (js_raise n.x_InvalidScript rfl (takes_of rfl rfl rfl rfl) rfl)) js_nil) (js_cons (js_if (jt_gt (je_add (je_len rfl n.b_len (je_fld n.k_Moves.cl n.a_Moves_all (jv 0))) (je_len rfl n.b_len (je_fld n.k_Moves.cl n.a_Moves_all (jv 1)))) (je_glob rfl n.c_MOST_COMMANDS.gl n.c_MOST_COMMANDS.rel n.c_MOST_COMMANDS.dr)) (js_one (js_raiseX n.f_TooMany (hr.mono (by omega)) rfl (takes_of rfl rfl rfl rfl) rfl (je_glob rfl n.c_MOST_COMMANDS.gl n.c_MOST_COMMANDS.rel n.c_MOST_COMMANDS.dr))) js_nil) (js_one (js_ret (je_add (je_fld n.k_Moves.cl n.a_Moves_all (jv 0)) (je_fld n.k_Moves.cl n.a_Moves_all (jv 1)))))))
theorem ok_Moves___getitem__ (n : Names P K mg ca) : JF P w K mg base ca 4 n.n_Moves___getitem__.f n.n_Moves___getitem__.fd [("self" : Str), ("index" : Str)] F_Moves___getitem__ := fn_mk (N := [("self" : Str), ("index" : Str)]) (k := 3) n.n_Moves___getitem__.fn sc_Moves___getitem__ fun cdv A outer s H E hr => (js_cons (js_expr (je_call (ok_need_index n) (hr.mono (by omega)) (takes_of rfl rfl rfl rfl) rfl n.n_need_index.gl n.n_need_index.fn.kp (n.bn_need_index) (ja_cons (je_fld n.k_Moves.cl n.a_Moves_all (jv 0)) (ja_cons (jv 1) ja_nil)))) (js_one (js_ret (je_ix (je_fld n.k_Moves.cl n.a_Moves_all (jv 0)) (jv 1)))))
theorem ok_Moves___len__ (n : Names P K mg ca) : JF P w K mg base ca 3 n.n_Moves___len__.f n.n_Moves___len__.fd [("self" : Str)] F_Moves___len__ := fn_mk (N := [("self" : Str)]) (k := 2) n.n_Moves___len__.fn sc_Moves___len__ fun cdv A outer s H E hr => (js_one (js_ret (je_len rfl n.b_len (je_fld n.k_Moves.cl n.a_Moves_all (jv 0)))))
theorem ok_Moves___add__ (n : Names P K mg ca) : JF P w K mg base ca 7 n.n_Moves___add__.f n.n_Moves___add__.fd [("self" : Str), ("other" : Str)] F_Moves___add__ := fn_mk (N := [("self" : Str), ("other" : Str), ("commands" : Str)]) (k := 6) n.n_Moves___add__.fn sc_Moves___add__ fun cdv A outer s H E hr => (js_cons (js_set sc_Moves___add__.nd rfl (.inl rfl) (je_meth ((ok_Moves_joined n).r n.bn_Moves_joined) (hr.mono (by omega)) (takes_of rfl rfl rfl rfl) n.k_Moves.cl n.n_Moves_joined.me (jv 0) (ja_cons (jv 1) ja_nil))) (js_one (js_ret (je_makeSt n.mk_Moves (ok_Moves___init__ n) (hr.mono (by omega)) (takes_of rfl rfl rfl rfl) rfl n.k_Moves.gl (jv 2)))))
theorem ok_Moves___sub__ (n : Names P K mg ca) : JF P w K mg base ca 7 n.n_Moves___sub__.f n.n_Moves___sub__.fd [("self" : Str), ("index" : Str)] F_Moves___sub__ := fn_mk (N := [("self" : Str), ("index" : Str), ("commands" : Str)]) (k := 6) n.n_Moves___sub__.fn sc_Moves___sub__ fun cdv A outer s H E hr => (js_cons (js_expr (je_call (ok_need_index n) (hr.mono (by omega)) (takes_of rfl rfl rfl rfl) rfl n.n_need_index.gl n.n_need_index.fn.kp (n.bn_need_index) (ja_cons (je_fld n.k_Moves.cl n.a_Moves_all (jv 0)) (ja_cons (jv 1) ja_nil)))) (js_cons (js_set sc_Moves___sub__.nd rfl (.inl rfl) (je_call (ok_without n) (hr.mono (by omega)) (takes_of rfl rfl rfl rfl) rfl n.n_without.gl n.n_without.fn.kp (n.bn_without) (ja_cons (je_fld n.k_Moves.cl n.a_Moves_all (jv 0)) (ja_cons (jv 1) ja_nil)))) (js_one (js_ret (je_makeSt n.mk_Moves (ok_Moves___init__ n) (hr.mono (by omega)) (takes_of rfl rfl rfl rfl) rfl n.k_Moves.gl (jv 2))))))
theorem ok_Moves___iadd__ (n : Names P K mg ca) : JF P w K mg base ca 5 n.n_Moves___iadd__.f n.n_Moves___iadd__.fd [("self" : Str), ("other" : Str)] F_Moves___iadd__ := fn_mk (N := [("self" : Str), ("other" : Str)]) (k := 4) n.n_Moves___iadd__.fn sc_Moves___iadd__ fun cdv A outer s H E hr => (js_cons (js_fld n.k_Moves.cl n.a_Moves_all (jv 0) (je_meth ((ok_Moves_joined n).r n.bn_Moves_joined) (hr.mono (by omega)) (takes_of rfl rfl rfl rfl) n.k_Moves.cl n.n_Moves_joined.me (jv 0) (ja_cons (jv 1) ja_nil))) (js_one (js_ret (jv 0))))
theorem ok__law_source (n : Names P K mg ca) : JF P w K mg base ca 1 n.n__law_source.f n.n__law_source.fd [("script" : Str), ("k" : Str)] F__law_source := fn_mk (N := [("script" : Str), ("k" : Str), ("number" : Str), ("start" : Str)]) (k := 0) n.n__law_source.fn sc__law_source fun cdv A outer s H E hr => (js_cons (js_set sc__law_source.nd rfl (.inl rfl) je_int) (js_cons (js_if (jt_gt (je_len rfl n.b_len (jv 0)) (jv 1)) (js_one (js_set sc__law_source.nd rfl (.inl rfl) (je_intOf rfl n.b_int (je_ix (jv 0) (jv 1))))) js_nil) (js_cons (js_set sc__law_source.nd rfl (.inl rfl) (je_mod (je_add (je_add (je_mul (jv 2) je_int) (je_mul je_int (jv 1))) je_int) je_int)) (js_cons (js_set sc__law_source.nd rfl (.inl rfl) (je_add (je_add (je_mod (je_mul (jv 3) (jv 3)) je_int) (je_mul je_int (jv 1))) je_int)) (js_one (js_ret (je_lst (ja_cons (je_if (jt_ge (jv 2) (je_pow je_int je_int)) (jv 2) je_int) (ja_cons (jv 3) ja_nil)) (Nat.le_of_ble_eq_true rfl))))))))
theorem ok__law_pick (n : Names P K mg ca) : JF P w K mg base ca 1 n.n__law_pick.f n.n__law_pick.fd [("source" : Str), ("many" : Str)] F__law_pick := fn_mk (N := [("source" : Str), ("many" : Str), ("found" : Str)]) (k := 0) n.n__law_pick.fn sc__law_pick fun cdv A outer s H E hr => (js_cons (js_if (jt_gt (je_ix (jv 0) je_int) je_int) (js_cons (js_set sc__law_pick.nd rfl (.inl rfl) (je_mod (je_intOf rfl n.b_int (je_ix (jv 0) je_int)) (jv 1))) (js_cons (js_put (i := 0) rfl (by first | exact Or.inl rfl | exact Or.inr (Or.inl rfl)) (je_div (je_intOf rfl n.b_int (je_ix (jv 0) je_int)) (jv 1)) je_int) (js_one (js_ret (jv 2))))) js_nil) (js_cons (js_put (i := 0) rfl (by first | exact Or.inl rfl | exact Or.inr (Or.inl rfl)) (je_mod (je_intOf rfl n.b_int (je_add (je_mul (je_ix (jv 0) je_int) je_int) je_int)) je_int) je_int) (js_one (js_ret (je_mod (je_div (je_mod (je_intOf rfl n.b_int (je_mul (je_ix (jv 0) je_int) (je_ix (jv 0) je_int))) je_int) je_int) (jv 1))))))
theorem ok__law_chosen (n : Names P K mg ca) : JF P w K mg base ca 2 n.n__law_chosen.f n.n__law_chosen.fd [("source" : Str), ("things" : Str)] F__law_chosen := fn_mk (N := [("source" : Str), ("things" : Str)]) (k := 1) n.n__law_chosen.fn sc__law_chosen fun cdv A outer s H E hr => (js_one (js_ret (je_ix (jv 1) (je_call (ok__law_pick n) (hr.mono (by omega)) (takes_of rfl rfl rfl rfl) rfl n.n__law_pick.gl n.n__law_pick.fn.kp (n.bn__law_pick) (ja_cons (jv 0) (ja_cons (je_len rfl n.b_len (jv 1)) ja_nil))))))
theorem ok__law_three (n : Names P K mg ca) : JF P w K mg base ca 3 n.n__law_three.f n.n__law_three.fd [("source" : Str)] F__law_three := fn_mk (N := [("source" : Str)]) (k := 2) n.n__law_three.fn sc__law_three fun cdv A outer s H E hr => (js_one (js_ret (je_listOf rfl rfl n.b_list (je_call (ok__law_chosen n) (hr.mono (by omega)) (takes_of rfl rfl rfl rfl) rfl n.n__law_chosen.gl n.n__law_chosen.fn.kp (n.bn__law_chosen) (ja_cons (jv 0) (ja_cons (je_lst (ja_cons je_str (ja_cons je_str (ja_cons je_str (ja_cons je_str (ja_cons je_str (ja_cons je_str ja_nil)))))) (Nat.le_of_ble_eq_true rfl)) ja_nil))))))
theorem ok__law_command (n : Names P K mg ca) : JF P w K mg base ca 4 n.n__law_command.f n.n__law_command.fd [("source" : Str)] F__law_command := fn_mk (N := [("source" : Str), ("one" : Str), ("other" : Str), ("third" : Str), ("way" : Str)]) (k := 3) n.n__law_command.fn sc__law_command fun cdv A outer s H E hr => (js_cons (js_asg (je_call (ok__law_three n) (hr.mono (by omega)) (takes_of rfl rfl rfl rfl) rfl n.n__law_three.gl n.n__law_three.fn.kp (n.bn__law_three) (ja_cons (jv 0) ja_nil)) (jg_unl rfl (pgs_cons (pg_name (i := 1) sc__law_command.nd rfl (by first | exact Or.inl rfl | exact Or.inr rfl)) (pgs_cons (pg_name (i := 2) sc__law_command.nd rfl (by first | exact Or.inl rfl | exact Or.inr rfl)) (pgs_cons (pg_name (i := 3) sc__law_command.nd rfl (by first | exact Or.inl rfl | exact Or.inr rfl)) pgs_nil))))) (js_cons (js_set sc__law_command.nd rfl (.inl rfl) (je_call (ok__law_pick n) (hr.mono (by omega)) (takes_of rfl rfl rfl rfl) rfl n.n__law_pick.gl n.n__law_pick.fn.kp (n.bn__law_pick) (ja_cons (jv 0) (ja_cons je_int ja_nil)))) (js_cons (js_if (jt_lt (jv 4) je_int) (js_one (js_ret (je_tup (ja_cons (je_ix (je_lst (ja_cons je_str (ja_cons je_str (ja_cons je_str (ja_cons je_str (ja_cons je_str (ja_cons je_str ja_nil)))))) (Nat.le_of_ble_eq_true rfl)) (jv 4)) (ja_cons (jv 1) ja_nil)) (Nat.le_of_ble_eq_true rfl)))) js_nil) (js_cons (js_if (jt_lt (jv 4) je_int) (js_one (js_ret (je_tup (ja_cons (je_ix (je_lst (ja_cons je_str (ja_cons je_str (ja_cons je_str ja_nil))) (Nat.le_of_ble_eq_true rfl)) (je_sub (jv 4) je_int)) (ja_cons (jv 1) (ja_cons (jv 2) ja_nil))) (Nat.le_of_ble_eq_true rfl)))) js_nil) (js_one (js_ret (je_tup (ja_cons je_str (ja_cons (jv 1) (ja_cons (jv 2) (ja_cons (jv 3) ja_nil)))) (Nat.le_of_ble_eq_true rfl))))))))
theorem ok__law_script (n : Names P K mg ca) : JF P w K mg base ca 5 n.n__law_script.f n.n__law_script.fd [("source" : Str), ("most" : Str)] F__law_script := fn_mk (N := [("source" : Str), ("most" : Str), ("turn" : Str)]) (k := 4) n.n__law_script.fn sc__law_script fun cdv A outer s H E hr => (js_one (js_ret (je_tupOf rfl n.b_tuple (je_lc rfl sc__law_script.nd (ji_rng1 rfl n.b_range (je_call (ok__law_pick n) (hr.mono (by omega)) (takes_of rfl rfl rfl rfl) rfl n.n__law_pick.gl n.n__law_pick.fn.kp (n.bn__law_pick) (ja_cons (jv 0) (ja_cons (je_add (jv 1) je_int) ja_nil)))) (own := [(("turn" : Str), 2)]) (blkOk_by (N := [("source" : Str), ("most" : Str), ("turn" : Str)]) (sc := defScope s__law_script) (by decide +kernel)) (fun _ _ _ _ _ => (jg_name sc__law_script.nd rfl (by first | exact Or.inl rfl | exact Or.inr rfl))) (fun _ _ _ _ _ => jts_nil) (fun _ _ _ _ _ => (je_call (ok__law_command n) (hr.mono (by omega)) takes0 rfl n.n__law_command.gl n.n__law_command.fn.kp (n.bn__law_command) (ja_cons (jv 0) ja_nil)))))))
theorem ok__law_made (n : Names P K mg ca) : JF P w K mg base ca 9 n.n__law_made.f n.n__law_made.fd [("deeds" : Str)] F__law_made := fn_mk (N := [("deeds" : Str), ("found" : Str), ("command" : Str)]) (k := 8) n.n__law_made.fn sc__law_made fun cdv A outer s H E hr => (js_cons (js_set sc__law_made.nd rfl (.inl rfl) (je_make0 n.mk_Moves (ok_Moves___init__ n 1) (hr.mono (by omega)) (takes_of rfl rfl rfl rfl) rfl n.k_Moves.gl)) (js_cons (js_for (passes_of rfl) rfl (ji_it (jv 0)) (jg_name sc__law_made.nd rfl (.inl rfl)) (js_one (js_set sc__law_made.nd rfl (.inl rfl) (je_own n.i_Moves n.o_Moves___add__ ((ok_Moves___add__ n).r n.bn_Moves___add__) (hr.mono (by omega)) (takes_of rfl rfl rfl rfl) (jv 1) (je_make n.mk_Moves (ok_Moves___init__ n 2) (hr.mono (by omega)) (takes_of rfl rfl rfl rfl) rfl n.k_Moves.gl (ja_cons (jv 2) ja_nil)))))) (js_one (js_ret (jv 1)))))
theorem ok__law_outcome (n : Names P K mg ca) : JF P w K mg base ca 9 n.n__law_outcome.f n.n__law_outcome.fd [("call" : Str), ("one" : Str), ("value" : Str)] F__law_outcome_k42 := fn_mk (N := [("call" : Str), ("one" : Str), ("value" : Str), ("e" : Str)]) (k := 8) n.n__law_outcome.fn sc__law_outcome fun cdv A outer s H E hr => (js_one (js_tryX rfl rfl sc__law_outcome.nd (takes_of rfl rfl rfl rfl) (fun x hx y hy => n.exm x ((by decide +kernel : ∀ z ∈ ([("InvalidIndex" : Str), ("InvalidScript" : Str), ("TooMany" : Str)] : List Str), z ∈ excA) x hx) y ((by decide +kernel : ∀ z ∈ ([("InvalidScript" : Str), ("InvalidIndex" : Str), ("TooMany" : Str)] : List Str), z ∈ excA) y hy)) (fun W' pn xe tk pa => (js_cons (js_if (jt_eq hr.units (jv 0) je_int) (js_one (js_ret (je_propN n.p_Moves_commands (hr.mono (by omega)) (je_own n.i_Moves n.o_Moves___add__ ((ok_Moves___add__ n).r n.bn_Moves___add__) (hr.mono (by omega)) tk (jv 1) (jv 2))))) js_nil) (js_cons (js_if (jt_eq hr.units (jv 0) je_int) (js_one (js_ret (je_propN n.p_Moves_commands (hr.mono (by omega)) (je_own n.i_Moves n.o_Moves___sub__ ((ok_Moves___sub__ n).r n.bn_Moves___sub__) (hr.mono (by omega)) tk (jv 1) (jv 2))))) js_nil) (js_cons (js_aug n.u_Moves___iadd__ ((ok_Moves___iadd__ n).r n.bn_Moves___iadd__) (hr.mono (by omega)) tk sc__law_outcome.nd (i := 1) rfl rfl (jv 2)) (js_one (js_ret (je_propN n.p_Moves_commands (hr.mono (by omega)) (jv 1)))))))) (fun z => ⟨_, (JHx.un rfl n.x_InvalidScript.gl (by decide) (fun a pn => (js_one (js_ret je_str))) (JHx.un rfl n.x_InvalidIndex.gl (by decide) (fun a pn => (js_one (js_ret je_str))) (JHx.ret (i := 3) rfl rfl rfl n.f_TooMany.gl (by decide) (fun a oe cls d pn hz hd => pe_txt rfl n.b_str n.f_TooMany.xf n.f_TooMany.nof rfl rfl (by decide) (by decide) hz hd) (sem_txt (by decide +kernel)) JHx.nil)))⟩)))
theorem ok_law (n : Names P K mg ca) : JF P w K mg base ca 10 n.n_law.f n.n_law.fd [("script" : Str)] F_law_k42 := fn_mk (N := [("script" : Str), ("k" : Str), ("source" : Str), ("deeds" : Str), ("more" : Str), ("one" : Str), ("other" : Str), ("due" : Str), ("at" : Str), ("odd" : Str), ("same" : Str), ("four" : Str)]) (k := 9) n.n_law.fn sc_law fun cdv A outer s H E hr => (js_cons (js_for (passes_of rfl) rfl (ji_rng1 rfl n.b_range (je_max rfl rfl n.b_max je_int (je_min rfl rfl n.b_min je_int (je_len rfl n.b_len (jv 0))))) (jg_name sc_law.nd rfl (.inl rfl)) (js_cons (js_set sc_law.nd rfl (.inl rfl) (je_ref (je_call (ok__law_source n) (hr.mono (by omega)) (takes_of rfl rfl rfl rfl) rfl n.n__law_source.gl n.n__law_source.fn.kp (n.bn__law_source) (ja_cons (jv 0) (ja_cons (jv 1) ja_nil))))) (js_cons (js_par rfl sc_law.nd rfl rfl (by decide) rfl rfl (je_call (ok__law_script n) (hr.mono (by omega)) (takes_of rfl rfl rfl rfl) rfl n.n__law_script.gl n.n__law_script.fn.kp (n.bn__law_script) (ja_cons (jv 2) (ja_cons je_int ja_nil))) (je_call (ok__law_script n) (hr.mono (by omega)) (takes_of rfl rfl rfl rfl) rfl n.n__law_script.gl n.n__law_script.fn.kp (n.bn__law_script) (ja_cons (jv 2) (ja_cons je_int ja_nil))) rfl) (js_cons (js_par rfl sc_law.nd rfl rfl (by decide) rfl rfl (je_call (ok__law_made n) (hr.mono (by omega)) (takes_of rfl rfl rfl rfl) rfl n.n__law_made.gl n.n__law_made.fn.kp (n.bn__law_made) (ja_cons (jv 3) ja_nil)) (je_call (ok__law_made n) (hr.mono (by omega)) (takes_of rfl rfl rfl rfl) rfl n.n__law_made.gl n.n__law_made.fn.kp (n.bn__law_made) (ja_cons (jv 4) ja_nil)) rfl) (js_cons (js_set sc_law.nd rfl (.inl rfl) (je_if (jt_lt (je_add (je_len rfl n.b_len (jv 3)) (je_len rfl n.b_len (jv 4))) je_int) (je_add (jv 3) (jv 4)) je_str)) (js_cons (js_if (jt_w (jw_or (jt_ne hr.units (je_call (ok__law_outcome n) (hr.mono (by omega)) (takes_of rfl rfl rfl rfl) rfl n.n__law_outcome.gl n.n__law_outcome.fn.kp (n.bn__law_outcome) (ja_cons je_int (ja_cons (jv 5) (ja_cons (jv 6) ja_nil)))) (jv 7)) (jw_or (jt_ne hr.units (je_propN n.p_Moves_commands (hr.mono (by omega)) (jv 5)) (jv 3)) (jw_or1 (jt_ne hr.units (je_propN n.p_Moves_commands (hr.mono (by omega)) (jv 6)) (jv 4)))))) (js_one (js_ret je_bl)) js_nil) (js_cons (js_for (passes_of rfl) rfl (ji_rng1 rfl n.b_range (je_len rfl n.b_len (jv 3))) (jg_name sc_law.nd rfl (.inl rfl)) (js_one (js_if (jt_ne hr.units (je_call (ok__law_outcome n) (hr.mono (by omega)) (takes_of rfl rfl rfl rfl) rfl n.n__law_outcome.gl n.n__law_outcome.fn.kp (n.bn__law_outcome) (ja_cons je_int (ja_cons (jv 5) (ja_cons (jv 8) ja_nil)))) (je_add (je_sl (jv 3) jo_none (jo_some (jv 8))) (je_sl (jv 3) (jo_some (je_add (jv 8) je_int)) jo_none))) (js_one (js_ret je_bl)) js_nil))) (js_cons (js_forL (passes_of rfl) rfl (ja_cons je_non (ja_cons (jv 4) (ja_cons je_int (ja_cons je_str (ja_cons (je_lstO (ja_cons (jv 6) ja_nil) (Nat.le_of_ble_eq_true rfl)) ja_nil))))) (jg_name sc_law.nd rfl (.inl rfl)) (js_one (js_if (jt_w (jw_or (jt_ne hr.units (je_call (ok__law_outcome n) (hr.mono (by omega)) (takes_of rfl rfl rfl rfl) rfl n.n__law_outcome.gl n.n__law_outcome.fn.kp (n.bn__law_outcome) (ja_cons je_int (ja_cons (jv 5) (ja_cons (jv 9) ja_nil)))) je_str) (jw_or1 (jt_ne hr.units (je_call (ok__law_outcome n) (hr.mono (by omega)) (takes_of rfl rfl rfl rfl) rfl n.n__law_outcome.gl n.n__law_outcome.fn.kp (n.bn__law_outcome) (ja_cons je_int (ja_cons (jv 5) (ja_cons (jv 9) ja_nil)))) je_str)))) (js_one (js_ret je_bl)) js_nil))) (js_cons (js_forL (passes_of rfl) rfl (ja_cons (je_neg je_int) (ja_cons (je_len rfl n.b_len (jv 3)) (ja_cons je_non (ja_cons je_bl (ja_cons je_str (ja_cons (jv 6) ja_nil)))))) (jg_name sc_law.nd rfl (.inl rfl)) (js_one (js_if (jt_ne hr.units (je_call (ok__law_outcome n) (hr.mono (by omega)) (takes_of rfl rfl rfl rfl) rfl n.n__law_outcome.gl n.n__law_outcome.fn.kp (n.bn__law_outcome) (ja_cons je_int (ja_cons (jv 5) (ja_cons (jv 9) ja_nil)))) je_str) (js_one (js_ret je_bl)) js_nil))) (js_cons (js_set sc_law.nd rfl (.inl rfl) (jv 5)) (js_one (js_if (jt_w (jw_or (jt_ne hr.units (je_call (ok__law_outcome n) (hr.mono (by omega)) (takes_of rfl rfl rfl rfl) rfl n.n__law_outcome.gl n.n__law_outcome.fn.kp (n.bn__law_outcome) (ja_cons je_int (ja_cons (jv 5) (ja_cons (jv 6) ja_nil)))) (jv 7)) (jw_or1 (jt_ne hr.units (je_propN n.p_Moves_commands (hr.mono (by omega)) (jv 10)) (je_if (jt_eq hr.units (jv 7) je_str) (jv 3) (jv 7)))))) (js_one (js_ret je_bl)) js_nil)))))))))))) (js_cons (js_set sc_law.nd rfl (.inl rfl) (je_own n.i_Moves n.o_Moves___add__ ((ok_Moves___add__ n).r n.bn_Moves___add__) (hr.mono (by omega)) (takes_of rfl rfl rfl rfl) (je_make n.mk_Moves (ok_Moves___init__ n 3) (hr.mono (by omega)) (takes_of rfl rfl rfl rfl) rfl n.k_Moves.gl (ja_cons (je_tup (ja_cons je_str (ja_cons je_str ja_nil)) (Nat.le_of_ble_eq_true rfl)) (ja_cons (je_tup (ja_cons je_str (ja_cons je_str (ja_cons je_str (ja_cons je_str ja_nil)))) (Nat.le_of_ble_eq_true rfl)) ja_nil))) (je_make n.mk_Moves (ok_Moves___init__ n 3) (hr.mono (by omega)) (takes_of rfl rfl rfl rfl) rfl n.k_Moves.gl (ja_cons (je_tup (ja_cons je_str (ja_cons je_str ja_nil)) (Nat.le_of_ble_eq_true rfl)) (ja_cons (je_tup (ja_cons je_str (ja_cons je_str ja_nil)) (Nat.le_of_ble_eq_true rfl)) ja_nil))))) (js_one (js_ret (je_and (je_eq hr.units (je_ownLen n.w_Moves___len__ ((ok_Moves___len__ n).r n.bn_Moves___len__) (hr.mono (by omega)) (takes_of rfl rfl rfl rfl) rfl n.b_len (jv 11)) je_int) (je_and (je_eq hr.units (je_ownIx n.w_Moves___getitem__ ((ok_Moves___getitem__ n).r n.bn_Moves___getitem__) (hr.mono (by omega)) (takes_of rfl rfl rfl rfl) (jv 11) je_int) (je_tup (ja_cons je_str (ja_cons je_str ja_nil)) (Nat.le_of_ble_eq_true rfl))) (je_one (je_eq hr.units (je_propN n.p_Moves_commands (hr.mono (by omega)) (je_own n.i_Moves n.o_Moves___sub__ ((ok_Moves___sub__ n).r n.bn_Moves___sub__) (hr.mono (by omega)) (takes_of rfl rfl rfl rfl) (jv 11) je_int)) (je_sl (je_propN n.p_Moves_commands (hr.mono (by omega)) (jv 11)) (jo_some je_int) jo_none)))))))))
end
def d_is_name : DefQ := ⟨fun K => He.ga K ("is_name" : Str), ("is_name" : Str), ("is_name" : Str), defArgs s_is_name, defBody s_is_name, defScope s_is_name, []⟩
def d_is_right_command : DefQ := ⟨fun K => He.ga K ("is_right_command" : Str), ("is_right_command" : Str), ("is_right_command" : Str), defArgs s_is_right_command, defBody s_is_right_command, defScope s_is_right_command, []⟩
def d_is_right_script : DefQ := ⟨fun K => He.ga K ("is_right_script" : Str), ("is_right_script" : Str), ("is_right_script" : Str), defArgs s_is_right_script, defBody s_is_right_script, defScope s_is_right_script, []⟩
def d_need_script : DefQ := ⟨fun K => He.ga K ("need_script" : Str), ("need_script" : Str), ("need_script" : Str), defArgs s_need_script, defBody s_need_script, defScope s_need_script, []⟩
def d_without : DefQ := ⟨fun K => He.ga K ("without" : Str), ("without" : Str), ("without" : Str), defArgs s_without, defBody s_without, defScope s_without, []⟩
def d_need_index : DefQ := ⟨fun K => He.ga K ("need_index" : Str), ("need_index" : Str), ("need_index" : Str), defArgs s_need_index, defBody s_need_index, defScope s_need_index, []⟩
def d_Moves___init__ : DefQ := ⟨fun K => He.ma K (He.ga K ("Moves" : Str)) ("__init__" : Str), ("__init__" : Str), ("Moves.__init__" : Str), defArgs s_Moves___init__, defBody s_Moves___init__, defScope s_Moves___init__, []⟩
def d_Moves_joined : DefQ := ⟨fun K => He.ma K (He.ga K ("Moves" : Str)) ("joined" : Str), ("joined" : Str), ("Moves.joined" : Str), defArgs s_Moves_joined, defBody s_Moves_joined, defScope s_Moves_joined, []⟩
def d_Moves___getitem__ : DefQ := ⟨fun K => He.ma K (He.ga K ("Moves" : Str)) ("__getitem__" : Str), ("__getitem__" : Str), ("Moves.__getitem__" : Str), defArgs s_Moves___getitem__, defBody s_Moves___getitem__, defScope s_Moves___getitem__, []⟩
def d_Moves___len__ : DefQ := ⟨fun K => He.ma K (He.ga K ("Moves" : Str)) ("__len__" : Str), ("__len__" : Str), ("Moves.__len__" : Str), defArgs s_Moves___len__, defBody s_Moves___len__, defScope s_Moves___len__, []⟩
def d_Moves___add__ : DefQ := ⟨fun K => He.ma K (He.ga K ("Moves" : Str)) ("__add__" : Str), ("__add__" : Str), ("Moves.__add__" : Str), defArgs s_Moves___add__, defBody s_Moves___add__, defScope s_Moves___add__, []⟩
def d_Moves___sub__ : DefQ := ⟨fun K => He.ma K (He.ga K ("Moves" : Str)) ("__sub__" : Str), ("__sub__" : Str), ("Moves.__sub__" : Str), defArgs s_Moves___sub__, defBody s_Moves___sub__, defScope s_Moves___sub__, []⟩
def d_Moves___iadd__ : DefQ := ⟨fun K => He.ma K (He.ga K ("Moves" : Str)) ("__iadd__" : Str), ("__iadd__" : Str), ("Moves.__iadd__" : Str), defArgs s_Moves___iadd__, defBody s_Moves___iadd__, defScope s_Moves___iadd__, []⟩
def d__law_source : DefQ := ⟨fun K => He.ga K ("_law_source" : Str), ("_law_source" : Str), ("_law_source" : Str), defArgs s__law_source, defBody s__law_source, defScope s__law_source, []⟩
def d__law_pick : DefQ := ⟨fun K => He.ga K ("_law_pick" : Str), ("_law_pick" : Str), ("_law_pick" : Str), defArgs s__law_pick, defBody s__law_pick, defScope s__law_pick, []⟩
def d__law_chosen : DefQ := ⟨fun K => He.ga K ("_law_chosen" : Str), ("_law_chosen" : Str), ("_law_chosen" : Str), defArgs s__law_chosen, defBody s__law_chosen, defScope s__law_chosen, []⟩
def d__law_three : DefQ := ⟨fun K => He.ga K ("_law_three" : Str), ("_law_three" : Str), ("_law_three" : Str), defArgs s__law_three, defBody s__law_three, defScope s__law_three, []⟩
def d__law_command : DefQ := ⟨fun K => He.ga K ("_law_command" : Str), ("_law_command" : Str), ("_law_command" : Str), defArgs s__law_command, defBody s__law_command, defScope s__law_command, []⟩
def d__law_script : DefQ := ⟨fun K => He.ga K ("_law_script" : Str), ("_law_script" : Str), ("_law_script" : Str), defArgs s__law_script, defBody s__law_script, defScope s__law_script, []⟩
def d__law_made : DefQ := ⟨fun K => He.ga K ("_law_made" : Str), ("_law_made" : Str), ("_law_made" : Str), defArgs s__law_made, defBody s__law_made, defScope s__law_made, []⟩
def d__law_outcome : DefQ := ⟨fun K => He.ga K ("_law_outcome" : Str), ("_law_outcome" : Str), ("_law_outcome" : Str), defArgs s__law_outcome, defBody s__law_outcome, defScope s__law_outcome, []⟩
def d_law : DefQ := ⟨fun K => He.ga K ("law" : Str), ("law" : Str), ("law" : Str), defArgs s_law, defBody s_law, defScope s_law, []⟩
def d_Moves_commands : DefQ := ⟨fun K => He5.wf K (He.ga K ("Moves" : Str)) "property" ("commands" : Str), ("commands" : Str), ("Moves.commands" : Str), defArgs s_Moves_commands, defBody s_Moves_commands, defScope s_Moves_commands, []⟩
def dx_TooMany : DefQ := ⟨fun K => He.ma K (He.ga K ("TooMany" : Str)) "__init__", ("__init__" : Str), ("TooMany.__init__" : Str), defArgs sx_TooMany, defBody sx_TooMany, defScope sx_TooMany, [("__class__" : Str)]⟩
def fn : List DefQ := [d_is_name, d_is_right_command, d_is_right_script, d_need_script, d_without, d_need_index, d_Moves___init__, d_Moves_joined, d_Moves___getitem__, d_Moves___len__, d_Moves___add__, d_Moves___sub__, d_Moves___iadd__, d__law_source, d__law_pick, d__law_chosen, d__law_three, d__law_command, d__law_script, d__law_made, d__law_outcome, d_law, d_Moves_commands, dx_TooMany]
def glos : List Str := [("is_name" : Str), ("is_right_command" : Str), ("is_right_script" : Str), ("need_script" : Str), ("without" : Str), ("need_index" : Str), ("_law_source" : Str), ("_law_pick" : Str), ("_law_chosen" : Str), ("_law_three" : Str), ("_law_command" : Str), ("_law_script" : Str), ("_law_made" : Str), ("_law_outcome" : Str), ("law" : Str), ("Moves" : Str), ("TooMany" : Str)]
def frees : List Str := [("all" : Str), ("bool" : Str), ("int" : Str), ("isinstance" : Str), ("len" : Str), ("list" : Str), ("max" : Str), ("min" : Str), ("range" : Str), ("set" : Str), ("str" : Str), ("super" : Str), ("tuple" : Str)]
def lits : List (Str × PyData) := [(("NAMES" : Str), (.tuple [(.str ("a" : Str)), (.str ("b" : Str)), (.str ("c" : Str))])), (("ALONE" : Str), (.tuple [(.str ("front" : Str)), (.str ("back" : Str)), (.str ("up" : Str)), (.str ("down" : Str)), (.str ("ungroup" : Str))])), (("BESIDE" : Str), (.tuple [(.str ("above" : Str)), (.str ("below" : Str))])), (("MOST_COMMANDS" : Str), (.int 4))]
def clss : List Str := [("Moves" : Str)]
def mks : List Str := [("Moves" : Str)]
def flds : List (Str × Str) := [(("Moves" : Str), ("all" : Str))]
def mths : List (Str × Str) := [(("Moves" : Str), ("__init__" : Str)), (("Moves" : Str), ("joined" : Str)), (("Moves" : Str), ("__getitem__" : Str)), (("Moves" : Str), ("__len__" : Str)), (("Moves" : Str), ("__add__" : Str)), (("Moves" : Str), ("__sub__" : Str)), (("Moves" : Str), ("__iadd__" : Str))]
def cms : List (Str × Str) := []
def prps : List (Str × Str) := [(("Moves" : Str), ("commands" : Str))]
def xfs : List (Str × Str) := [(("TooMany" : Str), ("limit" : Str))]
def file : Str := "/claim/cut.py"
def iscs : List Str := [("Moves" : Str)]
def isbs : List Str := [("Moves" : Str)]
def ops : List (Str × Str × Operator) := [(("Moves" : Str), ("__add__" : Str), .Add), (("Moves" : Str), ("__sub__" : Str), .Sub)]
def augs : List (Str × Str × Operator) := [(("Moves" : Str), ("__iadd__" : Str), .Add)]
def owms : List (Str × Str) := [(("Moves" : Str), ("__len__" : Str)), (("Moves" : Str), ("__getitem__" : Str))]
def pr0 (K : PySem.W.Frag) : Bool := glos.all fun x => (He.Fa.glo x).ok K
def pr1 (K : PySem.W.Frag) : Bool := frees.all fun x => (He.Fa.free x).ok K
def pr2 (K : PySem.W.Frag) : Bool := lits.all fun p => litB K p.1 p.2
def pr3 (K : PySem.W.Frag) : Bool := excs.all fun x => (He.Fa.glo x).ok K && (He.Fa.exc x).ok K
def pr4 (K : PySem.W.Frag) : Bool := excA.all fun x => excA.all fun y => decide (PySem.W.exmOne K (.ref (He.ga K x)) (.ref (He.ga K y)) = some (exSub x y))
def pr5 (K : PySem.W.Frag) : Bool := clss.all fun x => (He.Fa.cls x).ok K
def pr6 (K : PySem.W.Frag) : Bool := mks.all fun x => (He.Fa.mkr x).ok K
def pr7 (K : PySem.W.Frag) : Bool := flds.all fun p => (He.Fa.noat p.1 p.2).ok K
def pr8 (K : PySem.W.Frag) : Bool := mths.all fun p => (He.Fa.meth p.1 p.2).ok K
def pr9 (K : PySem.W.Frag) : Bool := cms.all fun p => cmB K (He.ga K p.1) p.2
def pr10 (K : PySem.W.Frag) : Bool := prps.all fun p => propB K (He.ga K p.1) p.2
def pr11 (K : PySem.W.Frag) : Bool := xfs.all fun p => exfB K p.1 p.2 file
def pr12 (K : PySem.W.Frag) : Bool := iscs.all fun c => iscB K (He.ga K c)
def pr13 (K : PySem.W.Frag) : Bool := isbs.all fun c => isbB K (He.ga K c)
def pr14 (K : PySem.W.Frag) : Bool := ops.all fun p => opcB K (He.ga K p.1) (He.ma K (He.ga K p.1) p.2.1) p.2.2
def pr15 (K : PySem.W.Frag) : Bool := augs.all fun p => augB K (He.ga K p.1) (He.ma K (He.ga K p.1) p.2.1) p.2.2
def pr16 (K : PySem.W.Frag) : Bool := owms.all fun p => owmB K (He.ga K p.1) (He.ma K (He.ga K p.1) p.2) p.2
def pr (K : PySem.W.Frag) : Bool := (pr0 K && (pr1 K && (pr2 K && (pr3 K && (pr4 K && (pr5 K && (pr6 K && (pr7 K && (pr8 K && (pr9 K && (pr10 K && (pr11 K && (pr12 K && (pr13 K && (pr14 K && (pr15 K && (pr16 K && true)))))))))))))))))
abbrev R : PySem.W.OpenRow := PySem.W.OpenLaw.row PySem.Challenge.rw_toparranged_k42_moves_put_together
abbrev hk : PySem.W.Hook := hookQ 6 pr fn
def ob (s : PySem.W.SharedT) : He.AlD := obsQG 6 pr fn (HandSHeadRun.getT s)
theorem ob_eq (s : PySem.W.SharedT) : ob s = hk.obs s.abs := obsQG_eq (HandSHeadRun.getT_eq s)
theorem names {K : PySem.W.Frag} {h : Heap} {mg : Str → Option Value} (X : K.In h) (G : h.Ns mainGlobals mg) (c : SaysQ pr fn K) : Nonempty (Names PySem.Challenge.rw_toparranged_k42_moves_put_together.prog K mg (He.ga K)) := by
  have c0 := c.chk
  obtain ⟨q0, c0⟩ := Bool.and_eq_true_iff.mp c0
  obtain ⟨q1, c0⟩ := Bool.and_eq_true_iff.mp c0
  obtain ⟨q2, c0⟩ := Bool.and_eq_true_iff.mp c0
  obtain ⟨q3, c0⟩ := Bool.and_eq_true_iff.mp c0
  obtain ⟨q4, c0⟩ := Bool.and_eq_true_iff.mp c0
  obtain ⟨q5, c0⟩ := Bool.and_eq_true_iff.mp c0
  obtain ⟨q6, c0⟩ := Bool.and_eq_true_iff.mp c0
  obtain ⟨q7, c0⟩ := Bool.and_eq_true_iff.mp c0
  obtain ⟨q8, c0⟩ := Bool.and_eq_true_iff.mp c0
  obtain ⟨q9, c0⟩ := Bool.and_eq_true_iff.mp c0
  obtain ⟨q10, c0⟩ := Bool.and_eq_true_iff.mp c0
  obtain ⟨q11, c0⟩ := Bool.and_eq_true_iff.mp c0
  obtain ⟨q12, c0⟩ := Bool.and_eq_true_iff.mp c0
  obtain ⟨q13, c0⟩ := Bool.and_eq_true_iff.mp c0
  obtain ⟨q14, c0⟩ := Bool.and_eq_true_iff.mp c0
  obtain ⟨q15, c0⟩ := Bool.and_eq_true_iff.mp c0
  obtain ⟨q16, c0⟩ := Bool.and_eq_true_iff.mp c0
  have hx : ∀ x, x ∈ excs → ExcN K mg (He.ga K) x := fun x hx => excN_of X G (Bool.and_eq_true_iff.mp (List.all_eq_true.mp q3 x hx)).1 (Bool.and_eq_true_iff.mp (List.all_eq_true.mp q3 x hx)).2
  have hm : ∀ x ∈ excA, ∀ y ∈ excA, PySem.W.exmOne K (.ref (He.ga K x)) (.ref (He.ga K y)) = some (exSub x y) := fun x hx y hy => of_decide_eq_true (List.all_eq_true.mp (List.all_eq_true.mp q4 x hx) y hy)
  have hg : ∀ x, x ∈ glos → mg x = some (.ref (He.ga K x)) := fun x hx => He.glo_ok X G (List.all_eq_true.mp q0 x hx)
  have hf : ∀ x, x ∈ frees → mg x = none := fun x hx => He.free_ok X G (List.all_eq_true.mp q1 x hx)
  have hl : ∀ p, p ∈ lits → Nonempty (Cst K mg p.1 p.2) := fun p hp => lit_ok X G (List.all_eq_true.mp q2 p hp)
  have hc : ∀ x, x ∈ clss → Cls K (He.ga K x) := fun x hx => He.cls_ok (List.all_eq_true.mp q5 x hx)
  have hk : ∀ x, x ∈ mks → Mk K (He.ga K x) (He.ma K (He.ga K x) "__init__") := fun x hx => He.mkr_ok (List.all_eq_true.mp q6 x hx)
  have ha : ∀ p, p ∈ flds → NoAttr K (He.ga K p.1) p.2 := fun p hp => He.noat_ok (List.all_eq_true.mp q7 p hp)
  have he : ∀ p, p ∈ mths → Meth K (He.ga K p.1) p.2 (He.ma K (He.ga K p.1) p.2) := fun p hp => He.meth_ok (List.all_eq_true.mp q8 p hp)
  obtain ⟨fd0, F0⟩ := c.def_ 0 (d := d_is_name) rfl rfl
  obtain ⟨fd1, F1⟩ := c.def_ 1 (d := d_is_right_command) rfl rfl
  obtain ⟨fd2, F2⟩ := c.def_ 2 (d := d_is_right_script) rfl rfl
  obtain ⟨fd3, F3⟩ := c.def_ 3 (d := d_need_script) rfl rfl
  obtain ⟨fd4, F4⟩ := c.def_ 4 (d := d_without) rfl rfl
  obtain ⟨fd5, F5⟩ := c.def_ 5 (d := d_need_index) rfl rfl
  obtain ⟨fd6, F6⟩ := c.def_ 6 (d := d_Moves___init__) rfl rfl
  obtain ⟨fd7, F7⟩ := c.def_ 7 (d := d_Moves_joined) rfl rfl
  obtain ⟨fd8, F8⟩ := c.def_ 8 (d := d_Moves___getitem__) rfl rfl
  obtain ⟨fd9, F9⟩ := c.def_ 9 (d := d_Moves___len__) rfl rfl
  obtain ⟨fd10, F10⟩ := c.def_ 10 (d := d_Moves___add__) rfl rfl
  obtain ⟨fd11, F11⟩ := c.def_ 11 (d := d_Moves___sub__) rfl rfl
  obtain ⟨fd12, F12⟩ := c.def_ 12 (d := d_Moves___iadd__) rfl rfl
  obtain ⟨fd13, F13⟩ := c.def_ 13 (d := d__law_source) rfl rfl
  obtain ⟨fd14, F14⟩ := c.def_ 14 (d := d__law_pick) rfl rfl
  obtain ⟨fd15, F15⟩ := c.def_ 15 (d := d__law_chosen) rfl rfl
  obtain ⟨fd16, F16⟩ := c.def_ 16 (d := d__law_three) rfl rfl
  obtain ⟨fd17, F17⟩ := c.def_ 17 (d := d__law_command) rfl rfl
  obtain ⟨fd18, F18⟩ := c.def_ 18 (d := d__law_script) rfl rfl
  obtain ⟨fd19, F19⟩ := c.def_ 19 (d := d__law_made) rfl rfl
  obtain ⟨fd20, F20⟩ := c.def_ 20 (d := d__law_outcome) rfl rfl
  obtain ⟨fd21, F21⟩ := c.def_ 21 (d := d_law) rfl rfl
  obtain ⟨k0⟩ := hl (("NAMES" : Str), (.tuple [(.str ("a" : Str)), (.str ("b" : Str)), (.str ("c" : Str))])) (List.mem_of_getElem? (i := 0) rfl)
  obtain ⟨k1⟩ := hl (("ALONE" : Str), (.tuple [(.str ("front" : Str)), (.str ("back" : Str)), (.str ("up" : Str)), (.str ("down" : Str)), (.str ("ungroup" : Str))])) (List.mem_of_getElem? (i := 1) rfl)
  obtain ⟨k2⟩ := hl (("BESIDE" : Str), (.tuple [(.str ("above" : Str)), (.str ("below" : Str))])) (List.mem_of_getElem? (i := 2) rfl)
  obtain ⟨k3⟩ := hl (("MOST_COMMANDS" : Str), (.int 4)) (List.mem_of_getElem? (i := 3) rfl)
  have pn0 : PropN K (He.ga K) ("Moves" : Str) ("commands" : Str) ("all" : Str) := by
    obtain ⟨fd, F⟩ := c.def_ 22 (d := d_Moves_commands) rfl rfl
    exact ⟨hc _ (List.mem_of_getElem? (i := 0) rfl), ha (("Moves" : Str), ("all" : Str)) (List.mem_of_getElem? (i := 0) rfl), _, _, fd, propB_ok (List.all_eq_true.mp q10 (("Moves" : Str), ("commands" : Str)) (List.mem_of_getElem? (i := 0) rfl)), F.bindsN (fun _ _ _ _ _ _ us hl => match us, hl with | [_], _ => rfl), fun P w mg base => fn_get (N := ["self"]) F ⟨rfl, rfl, rfl, by decide +kernel, rfl, by decide +kernel, by decide +kernel⟩ rfl rfl (hc _ (List.mem_of_getElem? (i := 0) rfl)) (ha (("Moves" : Str), ("all" : Str)) (List.mem_of_getElem? (i := 0) rfl))⟩
  have ef0 : ExcF PySem.Challenge.rw_toparranged_k42_moves_put_together.prog K mg (He.ga K) ("TooMany" : Str) ("limit" : Str) ("limit" : Str) 10 := by
    obtain ⟨e, ok⟩ := c.at_ 23 (d := dx_TooMany) rfl
    exact excF_of (P := PySem.Challenge.rw_toparranged_k42_moves_put_together.prog) (d := dx_TooMany) (msg := ("more than " : Str)) (f := ("limit" : Str)) (lim := ("limit" : Str)) X (hg _ (List.mem_of_getElem? (i := 16) rfl)) (List.all_eq_true.mp q11 (("TooMany" : Str), ("limit" : Str)) (List.mem_of_getElem? (i := 0) rfl)) rfl e ok rfl rfl (hf _ (List.mem_of_getElem? (i := 11) rfl)) (hf _ (List.mem_of_getElem? (i := 10) rfl)) (by decide +kernel) ⟨_, rfl, rfl⟩ rfl rfl rfl rfl rfl rfl (by decide) (by decide) (by decide +kernel) rfl rfl (fun _ _ _ _ => rfl) (fun _ _ _ _ => rfl) (fun _ _ _ _ => rfl) (fun _ _ _ _ => rfl) (fun _ _ _ _ => rfl) (fun _ _ _ _ _ _ _ us hl => match us, hl with | [_, _], _ => rfl)
  exact ⟨⟨⟨_, fd0, F0, hg _ (List.mem_of_getElem? (i := 0) rfl)⟩, ⟨_, fd1, F1, hg _ (List.mem_of_getElem? (i := 1) rfl)⟩, ⟨_, fd2, F2, hg _ (List.mem_of_getElem? (i := 2) rfl)⟩, ⟨_, fd3, F3, hg _ (List.mem_of_getElem? (i := 3) rfl)⟩, ⟨_, fd4, F4, hg _ (List.mem_of_getElem? (i := 4) rfl)⟩, ⟨_, fd5, F5, hg _ (List.mem_of_getElem? (i := 5) rfl)⟩, ⟨_, fd6, F6, he (("Moves" : Str), ("__init__" : Str)) (List.mem_of_getElem? (i := 0) rfl)⟩, ⟨_, fd7, F7, he (("Moves" : Str), ("joined" : Str)) (List.mem_of_getElem? (i := 1) rfl)⟩, ⟨_, fd8, F8, he (("Moves" : Str), ("__getitem__" : Str)) (List.mem_of_getElem? (i := 2) rfl)⟩, ⟨_, fd9, F9, he (("Moves" : Str), ("__len__" : Str)) (List.mem_of_getElem? (i := 3) rfl)⟩, ⟨_, fd10, F10, he (("Moves" : Str), ("__add__" : Str)) (List.mem_of_getElem? (i := 4) rfl)⟩, ⟨_, fd11, F11, he (("Moves" : Str), ("__sub__" : Str)) (List.mem_of_getElem? (i := 5) rfl)⟩, ⟨_, fd12, F12, he (("Moves" : Str), ("__iadd__" : Str)) (List.mem_of_getElem? (i := 6) rfl)⟩, ⟨_, fd13, F13, hg _ (List.mem_of_getElem? (i := 6) rfl)⟩, ⟨_, fd14, F14, hg _ (List.mem_of_getElem? (i := 7) rfl)⟩, ⟨_, fd15, F15, hg _ (List.mem_of_getElem? (i := 8) rfl)⟩, ⟨_, fd16, F16, hg _ (List.mem_of_getElem? (i := 9) rfl)⟩, ⟨_, fd17, F17, hg _ (List.mem_of_getElem? (i := 10) rfl)⟩, ⟨_, fd18, F18, hg _ (List.mem_of_getElem? (i := 11) rfl)⟩, ⟨_, fd19, F19, hg _ (List.mem_of_getElem? (i := 12) rfl)⟩, ⟨_, fd20, F20, hg _ (List.mem_of_getElem? (i := 13) rfl)⟩, ⟨_, fd21, F21, hg _ (List.mem_of_getElem? (i := 14) rfl)⟩, ⟨hc _ (List.mem_of_getElem? (i := 0) rfl), hg _ (List.mem_of_getElem? (i := 15) rfl), rfl⟩, hk _ (List.mem_of_getElem? (i := 0) rfl), ha (("Moves" : Str), ("all" : Str)) (List.mem_of_getElem? (i := 0) rfl), pn0, iscB_ok (hc _ (List.mem_of_getElem? (i := 0) rfl)) (List.all_eq_true.mp q12 ("Moves" : Str) (List.mem_of_getElem? (i := 0) rfl)), isbB_ok (List.all_eq_true.mp q13 ("Moves" : Str) (List.mem_of_getElem? (i := 0) rfl)), opcB_ok (hc _ (List.mem_of_getElem? (i := 0) rfl)) (List.all_eq_true.mp q14 (("Moves" : Str), ("__add__" : Str), .Add) (List.mem_of_getElem? (i := 0) rfl)), opcB_ok (hc _ (List.mem_of_getElem? (i := 0) rfl)) (List.all_eq_true.mp q14 (("Moves" : Str), ("__sub__" : Str), .Sub) (List.mem_of_getElem? (i := 1) rfl)), augB_ok (List.all_eq_true.mp q15 (("Moves" : Str), ("__iadd__" : Str), .Add) (List.mem_of_getElem? (i := 0) rfl)), owmB_ok (hc _ (List.mem_of_getElem? (i := 0) rfl)) (List.all_eq_true.mp q16 (("Moves" : Str), ("__len__" : Str)) (List.mem_of_getElem? (i := 0) rfl)), owmB_ok (hc _ (List.mem_of_getElem? (i := 0) rfl)) (List.all_eq_true.mp q16 (("Moves" : Str), ("__getitem__" : Str)) (List.mem_of_getElem? (i := 1) rfl)), ef0, k0, k1, k2, k3, hx _ (List.mem_of_getElem? (i := 0) rfl), hx _ (List.mem_of_getElem? (i := 1) rfl), hm, hf _ (List.mem_of_getElem? (i := 0) rfl), hf _ (List.mem_of_getElem? (i := 1) rfl), hf _ (List.mem_of_getElem? (i := 2) rfl), hf _ (List.mem_of_getElem? (i := 3) rfl), hf _ (List.mem_of_getElem? (i := 4) rfl), hf _ (List.mem_of_getElem? (i := 5) rfl), hf _ (List.mem_of_getElem? (i := 6) rfl), hf _ (List.mem_of_getElem? (i := 7) rfl), hf _ (List.mem_of_getElem? (i := 8) rfl), hf _ (List.mem_of_getElem? (i := 9) rfl), hf _ (List.mem_of_getElem? (i := 10) rfl), hf _ (List.mem_of_getElem? (i := 11) rfl), hf _ (List.mem_of_getElem? (i := 12) rfl)⟩⟩
def loose : List Str := [("_wall" : Str), ("__name__" : Str), ("ArrangeError" : Str), ("InvalidDrawing" : Str), ("InvalidScript" : Str), ("InvalidIndex" : Str), ("TooMany" : Str), ("WrongLine" : Str), ("NAMES" : Str), ("MOST_NUMBER" : Str), ("MOST_THINGS" : Str), ("MOST_COMMANDS" : Str), ("ALONE" : Str), ("BESIDE" : Str), ("is_name" : Str), ("is_thing" : Str), ("is_group" : Str), ("all_things" : Str), ("group_names" : Str), ("are_items" : Str), ("is_right_drawing" : Str), ("is_right_command" : Str), ("is_right_script" : Str), ("name_of" : Str), ("way_to" : Str), ("row_at" : Str), ("with_row" : Str), ("need_drawing" : Str), ("need_script" : Str), ("index_in" : Str), ("moved" : Str), ("alone_in" : Str), ("beside_in" : Str), ("grouped_in" : Str), ("behind" : Str), ("drawing_behind" : Str), ("names_in" : Str), ("steps_in" : Str), ("rows_of" : Str), ("spread" : Str), ("drawing_of" : Str), ("drawings_for" : Str), ("seen" : Str), ("first_parting" : Str), ("are_alike" : Str), ("without" : Str), ("script_in" : Str), ("need_index" : Str), ("Moves" : Str), ("_law_source" : Str), ("_law_pick" : Str), ("_law_chosen" : Str), ("_law_three" : Str), ("_law_command" : Str), ("_law_script" : Str), ("_law_made" : Str), ("_law_outcome" : Str)]
theorem run (w : World) : HandSHeadRun.RunEq R (PySem.W.view R.prog [63]) hk ob 6000 loose w := by
  intro os
  kernel_rfl
theorem fin (hL : ∀ ns : List Int, ns.length ≤ 63 → ∃ S', F_law_k42 [.scr ns] [] = .ok (.d (.bool true)) S') : PySem.Challenge.rw_toparranged_k42_moves_put_together.Holds := by
  open PySem PySem.W PySem.Calls PyProof.Rows in
  w_on; o_law
  refine HandSHeadRun.head_any (r := PySem.W.OpenLaw.row PySem.Challenge.rw_toparranged_k42_moves_put_together) (q := PySem.W.view (PySem.W.OpenLaw.row PySem.Challenge.rw_toparranged_k42_moves_put_together).prog [63]) (H := hk) (ob := ob) (M := 6000) (loose := loose) (d := HandSHeadRun.topDef (PySem.W.OpenLaw.row PySem.Challenge.rw_toparranged_k42_moves_put_together).prog 63) (kwd := []) ob_eq
    (by kernel_rfl) (fun s => by kernel_rfl) run (by kernel_rfl) (by kernel_rfl) (by kernel_rfl) (by rfl) (by first | assumption | decide +kernel) (by decide +kernel) ⟨rfl, rfl, rfl, rfl, rfl, by decide +kernel⟩ ?hw ?hc
  case hw => w_witness2
  case hc =>
    refine L2.walk_ofE (l := PySem.Challenge.rw_toparranged_k42_moves_put_together) (n := 63) (k := 10) (x := "script") (CX := CXw PySem.Challenge.rw_toparranged_k42_moves_put_together.prog) rfl (by decide) (by kernel_rfl) ⟨rfl, by decide, by decide⟩ ?F cxw_no
    intro w mg fa h Y G hmg0
    obtain ⟨K, KX, c⟩ := Y
    have hmg : mg ("law" : PySem.Str) = some (.ref fa) := by
      have e : (HandSHeadRun.topDef (PySem.W.OpenLaw.row PySem.Challenge.rw_toparranged_k42_moves_put_together).prog 63).name = ("law" : PySem.Str) := by kernel_rfl
      rw [← e]
      exact hmg0
    obtain ⟨n⟩ := names KX G c
    have e := hmg.symm.trans n.n_law.gl
    injection e with e
    injection e with e
    subst e
    have b := FunD.bindsA (ps := ["script"]) n.n_law.fn fun _ _ _ _ _ _ us hl => match us, hl with | [_], _ => rfl
    exact ⟨K, n.n_law.fd, spD K (He.ga K) 1 F_law_k42, KX, fun s v => b s [v] rfl, fun H a ns hl _ hS => sp_law hL H a ns hl hS, fun base _ _ => jf_w (ok_law n)⟩
end K42
theorem PySem.Challenge.cw_toparranged_k42_moves_put_together_holds : PySem.Challenge.rw_toparranged_k42_moves_put_together.Holds := by
  exact K42.fin P.k42
