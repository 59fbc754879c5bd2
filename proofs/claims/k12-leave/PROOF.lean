import PyProof.Rows.All
import Wide.All
import OpenK.AllK
import Wide.FinOn
import HandS.ForMost
import HandS.Exc
import HandS.TryOnly
import HandS.ExcOwn
import HandS.WordsExc
import HandS.TupAny
import HandS.Deep
import HandS.HeadHook1
import HandS.TupMul
import HandS.IsInst
import HandS.Style
import HandS.Conv
import PyProof.ListStr
import PyProof.TupleOfStr
import HandS.NoneIn
import HandS.Defaults
import HandS.Strs
import HandS.SetKeys
import HandS.More
import KE.KStateDown
import HandS.Ends
import HandS.Words
import HandS.Head0
import HandS.Head1
import HandS.Head2
import HandS.HeadEnd
import HandS.HeadHook2
import HandS.TryMany
import PyProof.ExcBaseAll.ValueError
import KE.GoesEnum
import HandS.Iter
import HandS.CallLocal
import HandS.CallSlots
import HandS.Dict
import PySem.Challenge.RW_toparranged_k12_whole_what_commands_leav
set_option Elab.async false
set_option linter.all false
set_option maxRecDepth 100000
set_option maxHeartbeats 4000000
/-! DL1: data over the hand layer: values as PyData, states, steps. -/
namespace DL
open PySem PySem.Spec PyProof.Rows L2

mutual
/-- the value v is the datum, all of it in the fixed part F -/
inductive Dr (K : PySem.W.Frag) (F : Hp) : V → PyData → Prop
  | non : Dr K F .non .none
  | bl (b : Bool) : Dr K F (.bl b) (.bool b)
  | int (i : Int) : Dr K F (.int i) (.int i)
  | str (x : Str) : Dr K F (.str x) (.str x)
  | lst {a : Addr} {vs : List V} {xs : List PyData} : F a = some (.lst vs) → DrAll K F vs xs → Dr K F (.ref a) (.list xs)
  | tup {a : Addr} {vs : List V} {xs : List PyData} : SqT K F a vs → DrAll K F vs xs → Dr K F (.ref a) (.tuple xs)
  | dct {a : Addr} {ks : List (Key × V)} {xs : List (PyData × PyData)} : F a = some (.dK ks) → DrKv K F ks xs → Dr K F (.ref a) (.dict xs)
inductive DrAll (K : PySem.W.Frag) (F : Hp) : List V → List PyData → Prop
  | nil : DrAll K F [] []
  | cons {v : V} {vs : List V} {d : PyData} {ds : List PyData} : Dr K F v d → DrAll K F vs ds → DrAll K F (v :: vs) (d :: ds)
inductive DrKv (K : PySem.W.Frag) (F : Hp) : List (Key × V) → List (PyData × PyData) → Prop
  | nil : DrKv K F [] []
  | cons {k : Str} {v : V} {vs : List (Key × V)} {d : PyData} {ds : List (PyData × PyData)} : Dr K F v d → DrKv K F vs ds → DrKv K F ((.inr k, v) :: vs) ((.str k, d) :: ds)
end

theorem same_t {K : PySem.W.Frag} {H H' : Hp} {a : Addr} {xs : List V} (e : Same H H') (h : SqT K H a xs) : SqT K H' a xs := by
  rcases h with (h | ⟨o, h⟩) | h
  · exact .inl (.inl (e _ _ h))
  · exact .inl (.inr ⟨o, e _ _ h⟩)
  · exact .inr h
theorem same_l {K : PySem.W.Frag} {H H' : Hp} {a : Addr} {xs : List V} (e : Same H H') (h : SqL K H a xs) : SqL K H' a xs := e.seq h

section
variable {K : PySem.W.Frag} {F F' : Hp}
mutual
theorem Dr.mono (e : Same F F') : ∀ {v : V} {d : PyData}, Dr K F v d → Dr K F' v d
  | _, _, .non => .non
  | _, _, .bl b => .bl b
  | _, _, .int i => .int i
  | _, _, .str x => .str x
  | _, _, .lst h r => .lst (e _ _ h) (DrAll.mono e r)
  | _, _, .tup h r => .tup (same_t e h) (DrAll.mono e r)
  | _, _, .dct h r => .dct (e _ _ h) (DrKv.mono e r)
theorem DrAll.mono (e : Same F F') : ∀ {vs : List V} {ds : List PyData}, DrAll K F vs ds → DrAll K F' vs ds
  | _, _, .nil => .nil
  | _, _, .cons h r => .cons (Dr.mono e h) (DrAll.mono e r)
theorem DrKv.mono (e : Same F F') : ∀ {vs : List (Key × V)} {ds : List (PyData × PyData)}, DrKv K F vs ds → DrKv K F' vs ds
  | _, _, .nil => .nil
  | _, _, .cons h r => .cons (Dr.mono e h) (DrKv.mono e r)
end
theorem DrAll.length : ∀ {vs : List V} {ds : List PyData}, DrAll K F vs ds → vs.length = ds.length
  | _, _, .nil => rfl
  | _, _, .cons _ r => by rw [List.length_cons, List.length_cons, DrAll.length r]
theorem DrKv.length : ∀ {vs : List (Key × V)} {ds : List (PyData × PyData)}, DrKv K F vs ds → vs.length = ds.length
  | _, _, .nil => rfl
  | _, _, .cons _ r => by rw [List.length_cons, List.length_cons, DrKv.length r]
theorem DrAll.append : ∀ {vs ws : List V} {ds es : List PyData}, DrAll K F vs ds → DrAll K F ws es → DrAll K F (vs ++ ws) (ds ++ es)
  | _, _, _, _, .nil, s => s
  | _, _, _, _, .cons h r, s => .cons h (DrAll.append r s)
theorem DrAll.take : ∀ {vs : List V} {ds : List PyData} (n : Nat), DrAll K F vs ds → DrAll K F (vs.take n) (ds.take n)
  | _, _, 0, _ => .nil
  | _, _, _ + 1, .nil => .nil
  | _, _, n + 1, .cons h r => .cons h (DrAll.take n r)
theorem DrAll.drop : ∀ {vs : List V} {ds : List PyData} (n : Nat), DrAll K F vs ds → DrAll K F (vs.drop n) (ds.drop n)
  | _, _, 0, r => r
  | _, _, _ + 1, .nil => .nil
  | _, _, n + 1, .cons _ r => DrAll.drop n r
theorem DrAll.get : ∀ {vs : List V} {ds : List PyData} {i : Nat} {d : PyData}, DrAll K F vs ds → ds[i]? = some d → ∃ v, vs[i]? = some v ∧ Dr K F v d
  | _, _, i, d, .nil, e => by simp at e
  | _, _, 0, d, .cons h r, e => by
    simp at e
    subst e
    exact ⟨_, rfl, h⟩
  | _, _, i + 1, d, .cons h r, e => DrAll.get (i := i) r (by simpa using e)
theorem DrAll.get' : ∀ {vs : List V} {ds : List PyData} {i : Nat} {v : V}, DrAll K F vs ds → vs[i]? = some v → ∃ d, ds[i]? = some d ∧ Dr K F v d
  | _, _, i, d, .nil, e => by simp at e
  | _, _, 0, d, .cons h r, e => by
    simp at e
    subst e
    exact ⟨_, rfl, h⟩
  | _, _, i + 1, d, .cons h r, e => DrAll.get' (i := i) r (by simpa using e)
theorem DrAll.rep {vs : List V} {ds : List PyData} (h : DrAll K F vs ds) : ∀ k : Nat, DrAll K F (List.replicate k vs).flatten (List.replicate k ds).flatten
  | 0 => .nil
  | k + 1 => by
    rw [List.replicate_succ, List.replicate_succ, List.flatten_cons, List.flatten_cons]
    exact h.append (h.rep k)
theorem DrAll.reverse : ∀ {vs : List V} {ds : List PyData}, DrAll K F vs ds → DrAll K F vs.reverse ds.reverse
  | _, _, .nil => .nil
  | _, _, .cons h r => by
    rw [List.reverse_cons, List.reverse_cons]
    exact (DrAll.reverse r).append (.cons h .nil)
theorem DrAll.ints : ∀ (ns : List Int), DrAll K F (ns.map V.int) (ns.map PyData.int)
  | [] => .nil
  | n :: ns => .cons (.int n) (DrAll.ints ns)
theorem DrAll.set {v : V} {d : PyData} (q : Dr K F v d) : ∀ {vs : List V} {ds : List PyData} (i : Nat), DrAll K F vs ds → DrAll K F (vs.set i v) (ds.set i d)
  | _, _, _, .nil => .nil
  | _, _, 0, .cons _ r => .cons q r
  | _, _, i + 1, .cons h r => .cons h (DrAll.set q i r)
theorem DrAll.eraseIdx : ∀ {vs : List V} {ds : List PyData} (i : Nat), DrAll K F vs ds → DrAll K F (vs.eraseIdx i) (ds.eraseIdx i)
  | _, _, _, .nil => .nil
  | _, _, 0, .cons _ r => r
  | _, _, i + 1, .cons h r => .cons h (DrAll.eraseIdx i r)
end

/-! ### the values of the denotations -/
/-- d: a datum that nobody changes; own: a fresh list of nobody else's; bor: the list of an own slot, read; ref: a cell of the store; scr: the script; opq: a value as it is; fn: a def of the text, by its name -/
inductive EV where
  | d (x : PyData)
  | own (xs : List PyData)
  | bor (xs : List PyData)
  | ownD (ks : List (PyData × PyData))
  | borD (ks : List (PyData × PyData))
  | ref (l : Nat)
  | scr (ns : List Int)
  | opq (v : V)
  | fn (x : Str)
/-- a cell of the store: a list that is changed by reference, an object -/
inductive Cell where
  | lst (xs : List PyData)
  | obj (c : Str) (fs : List (Str × EV))
abbrev Store := List Cell
abbrev Env := List (Option EV)
/-- an exception: its class's name, its one field -/
structure Exc where
  cls : Str
  fld : Option (Str × PyData)
inductive RE where
  | ok (v : EV) (S : Store)
  | raise (e : Exc) (S : Store)
  | stuck
inductive RA where
  | ok (vs : List EV) (S : Store)
  | raise (e : Exc) (S : Store)
  | stuck
inductive RS where
  | next (env : Env) (S : Store)
  | ret (v : EV) (S : Store)
  | brk (env : Env) (S : Store)
  | cont (env : Env) (S : Store)
  | raise (e : Exc) (env : Env) (S : Store)
  | stuck
abbrev DE := Env → Store → RE
abbrev DA := Env → Store → RA
abbrev DS := Env → Store → RS
/-- a def: its arguments, the store -/
abbrev DF := List EV → Store → RE

def EV.isOwn : EV → Bool
  | .own _ => true
  | .ownD _ => true
  | _ => false
/-- what is read of a value now -/
def EV.view (S : Store) : EV → Option PyData
  | .d x => some x
  | .own xs => some (.list xs)
  | .bor xs => some (.list xs)
  | .ownD ks => some (.dict ks)
  | .borD ks => some (.dict ks)
  | .ref l => match S[l]? with
    | some (.lst xs) => some (.list xs)
    | _ => none
  | _ => none

section
variable (K : PySem.W.Frag) (ca : Str → Addr)
def RepV (F : Hp) (ρ : List Addr) (H0 H : Hp) (v : V) : EV → Prop
  | .d x => Dr K F v x
  | .own xs => ∃ a vs, v = .ref a ∧ H0 a = none ∧ H a = some (.lst vs) ∧ F a = none ∧ a ∉ ρ ∧ DrAll K F vs xs
  | .ownD xs => ∃ a ks, v = .ref a ∧ H0 a = none ∧ H a = some (.dK ks) ∧ F a = none ∧ a ∉ ρ ∧ DrKv K F ks xs
  | .bor _ => False
  | .borD _ => False
  | .ref l => ∃ a, v = .ref a ∧ ρ[l]? = some a
  | .scr ns => ∃ a, v = .ref a ∧ SqL K F a (ns.map V.int)
  | .opq w => v = w
  | .fn x => v = .ref (He.ga K x)
/-- a field's value -/
def RepF (F : Hp) (ρ : List Addr) (v : V) : EV → Prop
  | .d x => Dr K F v x
  | .ref l => ∃ a, v = .ref a ∧ ρ[l]? = some a
  | _ => False
def CellRep (F : Hp) (ρ : List Addr) (H : Hp) (a : Addr) : Cell → Prop
  | .lst xs => ∃ vs, H a = some (.lst vs) ∧ DrAll K F vs xs
  | .obj c fs => ∃ dx vs, H a = some (.ins (ca c) dx vs) ∧ Paired (fun (p : Str × V) (q : Str × EV) => p.1 = q.1 ∧ RepF K F ρ p.2 q.2) vs fs

/-- the abstract state stands for the heap and the slots. H0: the heap at the def's entry (own lists are younger) -/
structure Sim (H0 F : Hp) (ρ : List Addr) (S : Store) (env : Env) (σ : L2.St) (H : Hp) : Prop where
  fz : Same F H
  len : ρ.length = S.length
  nd : ρ.Nodup
  rfz : ∀ a, a ∈ ρ → F a = none
  cell : ∀ (l : Nat) (a : Addr) (c : Cell), ρ[l]? = some a → S[l]? = some c → CellRep K ca F ρ H a c
  lenE : env.length = σ.length
  slot : ∀ (i : Nat) (ev : EV), env[i]? = some (some ev) → ∃ v, σ[i]? = some (some v) ∧ RepV K F ρ H0 H v ev
  ownD : ∀ (i j : Nat) (ei ej : EV) (a : Addr), env[i]? = some (some ei) → env[j]? = some (some ej) → ei.isOwn = true → ej.isOwn = true → σ[i]? = some (some (.ref a)) → σ[j]? = some (some (.ref a)) → i = j
end
structure Stp (F H : Hp) (ρ : List Addr) (F' H' : Hp) (ρ' : List Addr) : Prop where
  fz : Same F F'
  nfz : ∀ a, F a = none → F' a ≠ none → H a = none
  rho : ∃ new, ρ' = ρ ++ new ∧ ∀ a, a ∈ new → H a = none
  fr : ∀ a o, a ∉ ρ → H a = some o → H' a = some o
  mono : ∀ a, H' a = none → H a = none
theorem Stp.refl (F H : Hp) (ρ : List Addr) : Stp F H ρ F H ρ :=
  ⟨Same.refl _, fun a h h' => absurd h h', ⟨[], by simp, by simp⟩, fun _ _ _ h => h, fun _ h => h⟩
theorem Stp.trans {F H F1 H1 F2 H2 : Hp} {ρ ρ1 ρ2 : List Addr} (a : Stp F H ρ F1 H1 ρ1) (b : Stp F1 H1 ρ1 F2 H2 ρ2) : Stp F H ρ F2 H2 ρ2 := by
  obtain ⟨n1, e1, h1⟩ := a.rho
  obtain ⟨n2, e2, h2⟩ := b.rho
  refine ⟨a.fz.trans b.fz, fun x hx hx2 => ?_, ⟨n1 ++ n2, by rw [e2, e1, List.append_assoc], fun x hx => ?_⟩, fun x o hx ho => ?_, fun x hx => a.mono x (b.mono x hx)⟩
  · cases q : F1 x with
    | none => exact a.mono x (b.nfz x q hx2)
    | some o => exact a.nfz x hx (by rw [q]; exact fun z => nomatch z)
  · rcases List.mem_append.mp hx with z | z
    · exact h1 x z
    · exact a.mono x (h2 x z)
  · refine b.fr x o (fun z => ?_) (a.fr x o hx ho)
    rw [e1] at z
    rcases List.mem_append.mp z with z | z
    · exact hx z
    · rw [h1 x z] at ho
      cases ho
theorem Stp.mem {F H F1 H1 : Hp} {ρ ρ1 : List Addr} (a : Stp F H ρ F1 H1 ρ1) {x : Addr} (h : x ∈ ρ) : x ∈ ρ1 := by
  obtain ⟨n1, e1, _⟩ := a.rho
  rw [e1]
  exact List.mem_append_left _ h
theorem Stp.rget {F H F1 H1 : Hp} {ρ ρ1 : List Addr} (a : Stp F H ρ F1 H1 ρ1) {l : Nat} {x : Addr} (h : ρ[l]? = some x) : ρ1[l]? = some x := by
  obtain ⟨n1, e1, _⟩ := a.rho
  rw [e1, List.getElem?_append_left (List.getElem?_eq_some_iff.mp h).1]
  exact h
theorem Stp.notin {F H F1 H1 : Hp} {ρ ρ1 : List Addr} (a : Stp F H ρ F1 H1 ρ1) {x : Addr} {o : HO} (h : x ∉ ρ) (hx : H x = some o) : x ∉ ρ1 := by
  obtain ⟨n1, e1, hn⟩ := a.rho
  rw [e1]
  intro z
  rcases List.mem_append.mp z with z | z
  · exact h z
  · rw [hn x z] at hx
    cases hx
theorem Stp.unfz {F H F1 H1 : Hp} {ρ ρ1 : List Addr} (a : Stp F H ρ F1 H1 ρ1) {x : Addr} {o : HO} (h : F x = none) (hx : H x = some o) : F1 x = none := by
  cases q : F1 x with
  | none => rfl
  | some u =>
    have := a.nfz x h (by rw [q]; exact fun z => nomatch z)
    rw [hx] at this
    cases this

section
variable {K : PySem.W.Frag} {ca : Str → Addr} {H0 F H F' H' F1 H1 : Hp} {ρ ρ' ρ1 : List Addr} {S S' : Store} {env : Env} {σ : L2.St} {v : V} {ev : EV}
theorem RepF.mono (e : Same F F') (hr : ∀ (l : Nat) (x : Addr), ρ[l]? = some x → ρ'[l]? = some x) (h : RepF K F ρ v ev) : RepF K F' ρ' v ev := by
  cases ev with
  | d x => exact Dr.mono e h
  | ref l =>
    obtain ⟨a, e1, e2⟩ := h
    exact ⟨a, e1, hr _ _ e2⟩
  | _ => exact h.elim
/-- a value that was had keeps its meaning over a step -/
theorem RepV.step {B : Hp} (s : Stp F H ρ F' H' ρ') (h : RepV K F ρ B H v ev) : RepV K F' ρ' B H' v ev := by
  cases ev with
  | d x => exact Dr.mono s.fz h
  | own xs =>
    obtain ⟨a, vs, e1, e2, e3, e4, e5, e6⟩ := h
    exact ⟨a, vs, e1, e2, s.fr _ _ e5 e3, s.unfz e4 e3, s.notin e5 e3, DrAll.mono s.fz e6⟩
  | ownD xs =>
    obtain ⟨a, vs, e1, e2, e3, e4, e5, e6⟩ := h
    exact ⟨a, vs, e1, e2, s.fr _ _ e5 e3, s.unfz e4 e3, s.notin e5 e3, DrKv.mono s.fz e6⟩
  | bor xs => exact h.elim
  | borD xs => exact h.elim
  | ref l =>
    obtain ⟨a, e1, e2⟩ := h
    exact ⟨a, e1, s.rget e2⟩
  | scr ns =>
    obtain ⟨a, e1, e2⟩ := h
    exact ⟨a, e1, same_l s.fz e2⟩
  | opq w => exact h
  | fn w => exact h
theorem RepV.base {B B' : Hp} (hb : ∀ a, B a = none → B' a = none) (h : RepV K F ρ B H v ev) : RepV K F ρ B' H v ev := by
  cases ev with
  | own xs =>
    obtain ⟨a, vs, e1, e2, e3⟩ := h
    exact ⟨a, vs, e1, hb a e2, e3⟩
  | ownD xs =>
    obtain ⟨a, vs, e1, e2, e3⟩ := h
    exact ⟨a, vs, e1, hb a e2, e3⟩
  | _ => exact h
theorem CellRep.there {a : Addr} {c : Cell} (h : CellRep K ca F ρ H a c) : H a ≠ none := by
  cases c with
  | lst xs =>
    obtain ⟨vs, e, _⟩ := h
    rw [e]
    exact fun z => nomatch z
  | obj c fs =>
    obtain ⟨dx, vs, e, _⟩ := h
    rw [e]
    exact fun z => nomatch z
theorem Sim.there (s : Sim K ca H0 F ρ S env σ H) {a : Addr} (h : a ∈ ρ) : H a ≠ none := by
  obtain ⟨l, hl, e⟩ := List.mem_iff_getElem.mp h
  have hS : l < S.length := by rw [← s.len]; exact hl
  exact (s.cell l a S[l] (by rw [List.getElem?_eq_getElem hl, e]) (List.getElem?_eq_getElem hS)).there
theorem Sim.notin (s : Sim K ca H0 F ρ S env σ H) {a : Addr} (h : H a = none) : a ∉ ρ := fun z => s.there z h
theorem Sim.unfz (s : Sim K ca H0 F ρ S env σ H) {a : Addr} (h : H a = none) : F a = none := by
  cases q : F a with
  | none => rfl
  | some o =>
    rw [s.fz _ _ q] at h
    cases h
/-- nothing that the state speaks of has changed -/
theorem Sim.of (s : Sim K ca H0 F ρ S env σ H) (f : Same F F') (g : Same F' H') (c : ∀ a, a ∈ ρ → F' a = none ∧ ∀ o, H a = some o → H' a = some o)
    (o : ∀ (i : Nat) (ev : EV) (a : Addr), env[i]? = some (some ev) → ev.isOwn = true → σ[i]? = some (some (.ref a)) → F' a = none ∧ ∀ o, H a = some o → H' a = some o) : Sim K ca H0 F' ρ S env σ H' := by
  refine ⟨g, s.len, s.nd, fun a ha => (c a ha).1, fun l a cl e1 e2 => ?_, s.lenE, fun i ev e => ?_, s.ownD⟩
  · have h := s.cell l a cl e1 e2
    have hc := (c a (List.mem_of_getElem? e1)).2
    cases cl with
    | lst xs =>
      obtain ⟨vs, e3, e4⟩ := h
      exact ⟨vs, hc _ e3, DrAll.mono f e4⟩
    | obj cn fs =>
      obtain ⟨dx, vs, e3, e4⟩ := h
      exact ⟨dx, vs, hc _ e3, Paired.mapP e4 fun p q z => ⟨z.1, RepF.mono f (fun _ _ z => z) z.2⟩⟩
  · obtain ⟨v, e1, e2⟩ := s.slot i ev e
    refine ⟨v, e1, ?_⟩
    cases ev with
    | d x => exact Dr.mono f e2
    | own xs =>
      obtain ⟨a, vs, r1, r2, r3, r4, r5, r6⟩ := e2
      subst r1
      obtain ⟨q1, q2⟩ := o i _ a e rfl e1
      exact ⟨a, vs, rfl, r2, q2 _ r3, q1, r5, DrAll.mono f r6⟩
    | ownD xs =>
      obtain ⟨a, vs, r1, r2, r3, r4, r5, r6⟩ := e2
      subst r1
      obtain ⟨q1, q2⟩ := o i _ a e rfl e1
      exact ⟨a, vs, rfl, r2, q2 _ r3, q1, r5, DrKv.mono f r6⟩
    | bor xs => exact e2.elim
    | borD xs => exact e2.elim
    | ref l => exact e2
    | scr ns =>
      obtain ⟨a, r1, r2⟩ := e2
      exact ⟨a, r1, same_l f r2⟩
    | opq w => exact e2
    | fn w => exact e2
theorem Sim.own_at (s : Sim K ca H0 F ρ S env σ H) {i : Nat} {a : Addr} (e : env[i]? = some (some ev)) (o : ev.isOwn = true) (e2 : σ[i]? = some (some (.ref a))) : F a = none ∧ H0 a = none ∧ a ∉ ρ ∧ H a ≠ none := by
  obtain ⟨v, e1, h⟩ := s.slot i ev e
  rw [e2] at e1
  cases e1
  cases ev with
  | own xs =>
    obtain ⟨b, vs, r1, r2, r3, r4, r5, r6⟩ := h
    cases r1
    exact ⟨r4, r2, r5, by rw [r3]; exact fun z => nomatch z⟩
  | ownD xs =>
    obtain ⟨b, vs, r1, r2, r3, r4, r5, r6⟩ := h
    cases r1
    exact ⟨r4, r2, r5, by rw [r3]; exact fun z => nomatch z⟩
  | _ => cases o
/-- a new object, of which nothing is said -/
theorem Sim.alloc (s : Sim K ca H0 F ρ S env σ H) {p : Addr} {o : HO} (hp : H p = none) : Sim K ca H0 F ρ S env σ (upd H p o) := by
  have hs : Same H (upd H p o) := fun b u e => by
    rw [upd_ne (ne_of_none e hp)]
    exact e
  exact s.of (Same.refl _) (s.fz.trans hs) (fun a ha => ⟨s.rfz a ha, hs a⟩) fun i ev a e1 e2 e3 => ⟨(s.own_at e1 e2 e3).1, hs a⟩
theorem Stp.alloc {p : Addr} {o : HO} (hp : H p = none) : Stp F H ρ F (upd H p o) ρ :=
  ⟨Same.refl _, fun a h h' => absurd h h', ⟨[], by simp, by simp⟩, fun a u _ e => by rw [upd_ne (ne_of_none e hp)]; exact e, fun a e => by
    by_cases z : a = p
    · rw [z]; exact hp
    · rw [upd_ne z] at e; exact e⟩
/-- an object that is nobody's is fixed -/
theorem Sim.fix (s : Sim K ca H0 F ρ S env σ H) {p : Addr} {o : HO} (hp : H p = some o) (hF : F p = none) (hr : p ∉ ρ) (hs : ∀ (i : Nat) (ev : EV), env[i]? = some (some ev) → ev.isOwn = true → σ[i]? ≠ some (some (.ref p))) :
    Sim K ca H0 (upd F p o) ρ S env σ H := by
  have f : Same F (upd F p o) := fun b u e => by
    rw [upd_ne (ne_of_none e hF)]
    exact e
  refine s.of f (fun b u e => ?_) (fun a ha => ⟨?_, fun _ e => e⟩) fun i ev a e1 e2 e3 => ⟨?_, fun _ e => e⟩
  · by_cases z : b = p
    · subst z
      rw [upd_same] at e
      rw [hp]
      exact e
    · rw [upd_ne z] at e
      exact s.fz _ _ e
  · have z : a ≠ p := fun z => hr (by rw [← z]; exact ha)
    rw [upd_ne z]
    exact s.rfz a ha
  · have z : a ≠ p := fun z => hs i ev e1 e2 (by rw [← z]; exact e3)
    rw [upd_ne z]
    exact (s.own_at e1 e2 e3).1
theorem same_fix {p : Addr} {o : HO} (hF : F p = none) : Same F (upd F p o) := fun b u e => by
  rw [upd_ne (ne_of_none e hF)]
  exact e
/-- .. where it is younger than B -/
theorem Stp.fix {B FB : Hp} {ρB : List Addr} (s : Stp FB B ρB F H ρ) {p : Addr} {o : HO} (hB : B p = none) (hF : F p = none) : Stp FB B ρB (upd F p o) H ρ := by
  refine ⟨s.fz.trans (same_fix hF), fun a h1 h2 => ?_, s.rho, s.fr, s.mono⟩
  by_cases z : a = p
  · rw [z]; exact hB
  · rw [upd_ne z] at h2
    exact s.nfz a h1 h2
end
end DL

set_option Elab.async false
set_option linter.all false
set_option maxRecDepth 100000
set_option maxHeartbeats 4000000
/-! DL2: expressions as denotations. -/
namespace DL
open PySem PySem.Spec PyProof.Rows L2

def RE.bind : RE → (EV → Store → RE) → RE
  | .ok v S, k => k v S
  | .raise e S, _ => .raise e S
  | .stuck, _ => .stuck
def RE.bindA : RE → (EV → Store → RA) → RA
  | .ok v S, k => k v S
  | .raise e S, _ => .raise e S
  | .stuck, _ => .stuck
def RA.bind : RA → (List EV → Store → RE) → RE
  | .ok v S, k => k v S
  | .raise e S, _ => .raise e S
  | .stuck, _ => .stuck
def RA.bindA : RA → (List EV → Store → RA) → RA
  | .ok v S, k => k v S
  | .raise e S, _ => .raise e S
  | .stuck, _ => .stuck
def RE.bindS : RE → Env → (EV → Store → RS) → RS
  | .ok v S, _, k => k v S
  | .raise e S, env, _ => .raise e env S
  | .stuck, _, _ => .stuck
def RA.bindS : RA → Env → (List EV → Store → RS) → RS
  | .ok v S, _, k => k v S
  | .raise e S, env, _ => .raise e env S
  | .stuck, _, _ => .stuck
def RS.bind : RS → (Env → Store → RS) → RS
  | .next env S, k => k env S
  | r, _ => r

section
variable (K : PySem.W.Frag) (ca : Str → Addr)
/-- a state that is reached: its step, what it stands for -/
structure Now (H0 : Hp) (env : Env) (σ : L2.St) (F H : Hp) (ρ : List Addr) (F' H' : Hp) (ρ' : List Addr) (S' : Store) : Prop where
  stp : Stp F H ρ F' H' ρ'
  sim : Sim K ca H0 F' ρ' S' env σ H'
def RepE (F : Hp) (ρ : List Addr) (B : Hp) (env : Env) (σ : L2.St) (H : Hp) (v : V) : EV → Prop
  | .bor xs => ∃ (i : Nat) (a : Addr), env[i]? = some (some (.own xs)) ∧ σ[i]? = some (some (.ref a)) ∧ v = .ref a
  | .borD ks => ∃ (i : Nat) (a : Addr), env[i]? = some (some (.ownD ks)) ∧ σ[i]? = some (some (.ref a)) ∧ v = .ref a
  | ev => RepV K F ρ B H v ev
def ExcRep (F H : Hp) (cls : Value) (d : Option Addr) (e : Exc) : Prop :=
  cls = .ref (ca e.cls) ∧ match e.fld with
    | none => d = none
    | some (f, x) => ∃ dd v, d = some dd ∧ H dd = some (.xd [(f, v)]) ∧ Dr K F v x
variable (W : WX)
def PostE (H0 : Hp) (env : Env) (σ : L2.St) (F H : Hp) (ρ : List Addr) (Q : VK) : RE → Prop
  | .ok r S' => ∀ v F' H' ρ', Now K ca H0 env σ F H ρ F' H' ρ' S' → RepE K F' ρ' H env σ H' v r → Q v H'
  | .raise ex S' => ∀ cls d F' H' ρ', Now K ca H0 env σ F H ρ F' H' ρ' S' → ExcRep K ca F' H' cls d ex → W cls d σ H'
  | .stuck => False
/-- a test's -/
def PostT (H0 : Hp) (env : Env) (σ : L2.St) (F H : Hp) (ρ : List Addr) (Q : Bool → Hp → Prop) : RE → Prop
  | .ok (.d (.bool b)) S' => ∀ F' H' ρ', Now K ca H0 env σ F H ρ F' H' ρ' S' → Q b H'
  | .raise ex S' => ∀ cls d F' H' ρ', Now K ca H0 env σ F H ρ F' H' ρ' S' → ExcRep K ca F' H' cls d ex → W cls d σ H'
  | _ => False
def PostA (H0 : Hp) (env : Env) (σ : L2.St) (F H : Hp) (ρ : List Addr) (Q : List V → Hp → Prop) : RA → Prop
  | .ok rs S' => ∀ vs F' H' ρ', Now K ca H0 env σ F H ρ F' H' ρ' S' → Paired (fun v r => RepV K F' ρ' H H' v r) vs rs → Q vs H'
  | .raise ex S' => ∀ cls d F' H' ρ', Now K ca H0 env σ F H ρ F' H' ρ' S' → ExcRep K ca F' H' cls d ex → W cls d σ H'
  | .stuck => False
def dTE (f : DE) : TE := fun σ H Q => ∃ H0 F ρ S env, Sim K ca H0 F ρ S env σ H ∧ PostE K ca W H0 env σ F H ρ Q (f env S)
def dTT (f : DE) : TT := fun σ H Q => ∃ H0 F ρ S env, Sim K ca H0 F ρ S env σ H ∧ PostT K ca W H0 env σ F H ρ Q (f env S)
def dTA (f : DA) : TA := fun σ H Q => ∃ H0 F ρ S env, Sim K ca H0 F ρ S env σ H ∧ PostA K ca W H0 env σ F H ρ Q (f env S)
end
abbrev JE (X : Cx) (ca : Str → Addr) (W : WX) (e : Expr) (f : DE) : Prop := PE X e (dTE X.K ca W f)
abbrev JT (X : Cx) (ca : Str → Addr) (W : WX) (e : Expr) (f : DE) : Prop := PT X e (dTT X.K ca W f)
abbrev JW (X : Cx) (ca : Str → Addr) (W : WX) (e : Expr) (f : DE) : Prop := PW X e (dTT X.K ca W f)
abbrev JA (X : Cx) (ca : Str → Addr) (W : WX) (es : List Expr) (f : DA) : Prop := PA X es (dTA X.K ca W f)

theorem imp_e {X : Cx} {e : Expr} {t t' : TE} (h : PE X e t) (i : ∀ σ H Q, t' σ H Q → t σ H Q) : PE X e t' := ⟨fun pins s σ H Q I q => h.run pins s σ H Q I (i σ H Q q)⟩
theorem imp_t {X : Cx} {e : Expr} {t t' : TT} (h : PT X e t) (i : ∀ σ H Q, t' σ H Q → t σ H Q) : PT X e t' := ⟨fun pins s σ H Q I q => h.run pins s σ H Q I (i σ H Q q)⟩
theorem imp_w {X : Cx} {e : Expr} {t t' : TT} (h : PW X e t) (i : ∀ σ H Q, t' σ H Q → t σ H Q) : PW X e t' := ⟨fun wh pins s σ H Q I q => h.run wh pins s σ H Q I (i σ H Q q)⟩
theorem imp_a {X : Cx} {es : List Expr} {t t' : TA} (h : PA X es t) (i : ∀ σ H Q, t' σ H Q → t σ H Q) : PA X es t' := ⟨fun pos pins s σ H Q I q => h.run pos pins s σ H Q I (i σ H Q q)⟩

section
variable {K : PySem.W.Frag} {ca : Str → Addr} {W : WX} {H0 F H F' H' F1 H1 F2 H2 B : Hp} {ρ ρ' ρ1 ρ2 : List Addr} {S S' S1 S2 : Store} {env : Env} {σ : L2.St} {v : V} {ev : EV} {Q : VK}
theorem RepE.ofV (h : RepV K F ρ B H v ev) : RepE K F ρ B env σ H v ev := by
  cases ev with
  | bor xs => exact h.elim
  | borD xs => exact h.elim
  | _ => exact h
theorem RepE.step (s : Stp F H ρ F' H' ρ') (h : RepE K F ρ B env σ H v ev) : RepE K F' ρ' B env σ H' v ev := by
  cases ev with
  | bor xs => exact h
  | borD xs => exact h
  | d x => exact RepV.step (K := K) (ev := .d x) (B := B) s h
  | own x => exact RepV.step (ev := .own x) s h
  | ownD x => exact RepV.step (ev := .ownD x) s h
  | ref x => exact RepV.step (K := K) (ev := .ref x) (B := B) s h
  | scr x => exact RepV.step (K := K) (ev := .scr x) (B := B) s h
  | opq x => exact h
  | fn x => exact h
theorem RepE.base {B' : Hp} (hb : ∀ a, B a = none → B' a = none) (h : RepE K F ρ B env σ H v ev) : RepE K F ρ B' env σ H v ev := by
  cases ev with
  | bor xs => exact h
  | borD xs => exact h
  | d x => exact h
  | own x => exact RepV.base (ev := .own x) hb h
  | ownD x => exact RepV.base (ev := .ownD x) hb h
  | ref x => exact h
  | scr x => exact h
  | opq x => exact h
  | fn x => exact h
/-- what is seen of a value: a list, a dict as it stands now; all else fixed -/
def Vw (K : PySem.W.Frag) (F H : Hp) (v : V) : PyData → Prop
  | .list xs => ∃ a vs, v = .ref a ∧ H a = some (.lst vs) ∧ DrAll K F vs xs
  | .dict ks => ∃ a vs, v = .ref a ∧ H a = some (.dK vs) ∧ DrKv K F vs ks
  | x => Dr K F v x
theorem vw_dr (f : Same F H) {x : PyData} (h : Dr K F v x) : Vw K F H v x := by
  cases h with
  | lst h r => exact ⟨_, _, rfl, f _ _ h, r⟩
  | dct h r => exact ⟨_, _, rfl, f _ _ h, r⟩
  | tup h r => exact .tup h r
  | non => exact .non
  | bl b => exact .bl b
  | int b => exact .int b
  | str b => exact .str b
theorem vw_of (s : Sim K ca H0 F ρ S env σ H) (r : RepE K F ρ B env σ H v ev) {x : PyData} (e : ev.view S = some x) : Vw K F H v x := by
  cases ev with
  | d y =>
    cases e
    exact vw_dr s.fz r
  | own xs =>
    cases e
    obtain ⟨a, vs, e1, _, e3, _, _, e6⟩ := r
    exact ⟨a, vs, e1, e3, e6⟩
  | ownD xs =>
    cases e
    obtain ⟨a, vs, e1, _, e3, _, _, e6⟩ := r
    exact ⟨a, vs, e1, e3, e6⟩
  | bor xs =>
    cases e
    obtain ⟨i, a, e1, e2, e3⟩ := r
    obtain ⟨v', e4, e5⟩ := s.slot i _ e1
    rw [e2] at e4
    cases e4
    obtain ⟨a', vs, r1, _, r3, _, _, r6⟩ := e5
    cases r1
    exact ⟨a, vs, e3, r3, r6⟩
  | borD xs =>
    cases e
    obtain ⟨i, a, e1, e2, e3⟩ := r
    obtain ⟨v', e4, e5⟩ := s.slot i _ e1
    rw [e2] at e4
    cases e4
    obtain ⟨a', vs, r1, _, r3, _, _, r6⟩ := e5
    cases r1
    exact ⟨a, vs, e3, r3, r6⟩
  | ref l =>
    obtain ⟨a, e1, e2⟩ := r
    unfold EV.view at e
    cases q : S[l]? with
    | none =>
      simp only [q] at e
      cases e
    | some c =>
      cases c with
      | obj cn fs =>
        simp only [q] at e
        cases e
      | lst xs =>
        simp only [q] at e
        cases e
        obtain ⟨vs, e3, e4⟩ := s.cell l a _ e2 q
        exact ⟨a, vs, e1, e3, e4⟩
  | scr ns => cases e
  | opq w => cases e
  | fn w => cases e
theorem drAll_dp {G : Hp} : ∀ {vs : List V} {xs : List PyData}, (∀ v x, x ∈ xs → Dr K F v x → x.canLay0 = true → Dp K G v x) → DrAll K F vs xs → PyData.canLayAll0 xs = true → DpAll K G vs xs
  | [], [], _, .nil, _ => .nil
  | _ :: _, x :: xs, h, .cons r rs, c => by
    have c' : x.canLay0 = true ∧ PyData.canLayAll0 xs = true := by simpa [PyData.canLayAll0] using c
    exact .cons (h _ _ List.mem_cons_self r c'.1) (drAll_dp (fun v y hy => h v y (List.mem_cons_of_mem _ hy)) rs c'.2)
theorem dp_of (f : Same F H) : ∀ (x : PyData) (v : V), Dr K F v x → x.canLay0 = true → Dp K H v x
  | .none, _, h, _ => by cases h; exact .non
  | .bool b, _, h, _ => by cases h; exact .bl b
  | .int b, _, h, _ => by cases h; exact .int b
  | .str b, _, h, _ => by cases h; exact .str b
  | .list xs, v, h, c => by
    cases h with
    | lst h r => exact .lst (SqL.of (f _ _ h)) (drAll_dp (fun v x hx => dp_of f x v) r (by simpa [PyData.canLay0] using c))
  | .tuple xs, v, h, c => by
    cases h with
    | tup h r => exact .tup (same_t f h) (drAll_dp (fun v x hx => dp_of f x v) r (by simpa [PyData.canLay0] using c))
  | .dict xs, v, h, c => by simp [PyData.canLay0] at c
theorem vw_dp (f : Same F H) {x : PyData} (h : Vw K F H v x) (c : x.canLay0 = true) : Dp K H v x := by
  cases x with
  | list xs =>
    obtain ⟨a, vs, e1, e2, e3⟩ := h
    subst e1
    exact .lst (SqL.of e2) (drAll_dp (fun v x _ => dp_of f x v) e3 (by simpa [PyData.canLay0] using c))
  | dict xs => simp [PyData.canLay0] at c
  | none => exact dp_of f _ _ h c
  | bool b => exact dp_of f _ _ h c
  | int b => exact dp_of f _ _ h c
  | str b => exact dp_of f _ _ h c
  | tuple b => exact dp_of f _ _ h c
/-! ### what a new object gives -/
theorem Now.newT (n : Now K ca H0 env σ F H ρ F' H' ρ' S') {p : Addr} {vs : List V} (hp : H' p = none) : Now K ca H0 env σ F H ρ (upd F' p (.tup vs)) (upd H' p (.tup vs)) ρ' S' := by
  have s1 := n.sim.alloc (o := .tup vs) hp
  have t1 := n.stp.trans (Stp.alloc (o := .tup vs) hp)
  have hF := n.sim.unfz hp
  exact ⟨t1.fix (n.stp.mono p hp) hF, s1.fix upd_same hF (n.sim.notin hp) fun i ev e1 e2 e3 => (n.sim.own_at e1 e2 e3).2.2.2 hp⟩
theorem Now.newO (n : Now K ca H0 env σ F H ρ F' H' ρ' S') {p : Addr} {o : HO} (hp : H' p = none) : Now K ca H0 env σ F H ρ F' (upd H' p o) ρ' S' :=
  ⟨n.stp.trans (Stp.alloc hp), n.sim.alloc hp⟩
theorem fin_t {xs : List PyData} {vs : List V} (n : Now K ca H0 env σ F H ρ F' H' ρ' S') (po : PostE K ca W H0 env σ F H ρ Q (.ok (.d (.tuple xs)) S')) (r : DrAll K F' vs xs) {p : Addr} (hp : H' p = none) : Q (.ref p) (upd H' p (.tup vs)) := by
  have hF := n.sim.unfz hp
  exact po _ _ _ _ (n.newT hp) (show Dr K _ _ _ from .tup (.inl (.inl upd_same)) (r.mono (same_fix hF)))
theorem fin_l {xs : List PyData} {vs : List V} (n : Now K ca H0 env σ F H ρ F' H' ρ' S') (po : PostE K ca W H0 env σ F H ρ Q (.ok (.own xs) S')) (r : DrAll K F' vs xs) {p : Addr} (hp : H' p = none) : Q (.ref p) (upd H' p (.lst vs)) := by
  have hF := n.sim.unfz hp
  exact po _ _ _ _ (n.newO hp) ⟨p, vs, rfl, n.stp.mono p hp, upd_same, hF, n.sim.notin hp, r⟩
theorem fin_d {x : PyData} (n : Now K ca H0 env σ F H ρ F' H' ρ' S') (po : PostE K ca W H0 env σ F H ρ Q (.ok (.d x) S')) (r : Dr K F' v x) : Q v H' := po _ _ _ _ n r
/-- an own list, an own dict, that is fixed from now on -/
def EV.fixed : EV → Option EV
  | .d x => some (.d x)
  | .own xs => some (.d (.list xs))
  | .ownD ks => some (.d (.dict ks))
  | .ref l => some (.ref l)
  | .scr ns => some (.scr ns)
  | .opq w => some (.opq w)
  | .fn x => some (.fn x)
  | _ => none
theorem Now.fix (n : Now K ca H0 env σ F H ρ F' H' ρ' S') {a : Addr} {o : HO} (h1 : H a = none) (h2 : H' a = some o) (h3 : F' a = none) (h4 : a ∉ ρ') (hm : ∀ b, H b = none → ∀ (i : Nat) (ev : EV), env[i]? = some (some ev) → ev.isOwn = true → σ[i]? ≠ some (some (.ref b))) :
    Now K ca H0 env σ F H ρ (upd F' a o) H' ρ' S' := ⟨n.stp.fix h1 h3, n.sim.fix h2 h3 h4 (hm a h1)⟩
/-- own slots are older than what is reckoned -/
def Old (env : Env) (σ : L2.St) (H : Hp) : Prop := ∀ b, H b = none → ∀ (i : Nat) (ev : EV), env[i]? = some (some ev) → ev.isOwn = true → σ[i]? ≠ some (some (.ref b))
theorem Sim.old (s : Sim K ca H0 F ρ S env σ H) : Old env σ H := fun b hb i ev e1 e2 e3 => (s.own_at e1 e2 e3).2.2.2 hb
theorem Now.fixed (n : Now K ca H0 env σ F H ρ F' H' ρ' S') (hm : Old env σ H) (r : RepE K F' ρ' H env σ H' v ev) {ev' : EV} (e : ev.fixed = some ev') :
    ∃ F'', Now K ca H0 env σ F H ρ F'' H' ρ' S' ∧ Same F' F'' ∧ RepV K F'' ρ' H H' v ev' := by
  cases ev with
  | d x => cases e; exact ⟨F', n, Same.refl _, r⟩
  | own xs =>
    cases e
    obtain ⟨a, vs, e1, e2, e3, e4, e5, e6⟩ := r
    subst e1
    exact ⟨_, n.fix e2 e3 e4 e5 hm, same_fix e4, show Dr K _ _ _ from .lst upd_same (e6.mono (same_fix e4))⟩
  | ownD xs =>
    cases e
    obtain ⟨a, vs, e1, e2, e3, e4, e5, e6⟩ := r
    subst e1
    exact ⟨_, n.fix e2 e3 e4 e5 hm, same_fix e4, show Dr K _ _ _ from .dct upd_same (e6.mono (same_fix e4))⟩
  | bor xs => cases e
  | borD xs => cases e
  | ref l => cases e; exact ⟨F', n, Same.refl _, r⟩
  | scr l => cases e; exact ⟨F', n, Same.refl _, r⟩
  | opq l => cases e; exact ⟨F', n, Same.refl _, r⟩
  | fn l => cases e; exact ⟨F', n, Same.refl _, r⟩
end
end DL

set_option Elab.async false
set_option linter.all false
set_option maxRecDepth 100000
set_option maxHeartbeats 4000000
/-! DL3: the rules of expressions. -/
namespace DL
open PySem PySem.Spec PyProof.Rows L2

def RE.bindB : RE → (Bool → Store → RE) → RE
  | .ok (.d (.bool b)) S, k => k b S
  | .raise e S, _ => .raise e S
  | _, _ => .stuck
def RE.bindBS : RE → Env → (Bool → Store → RS) → RS
  | .ok (.d (.bool b)) S, _, k => k b S
  | .raise e S, env, _ => .raise e env S
  | _, _, _ => .stuck

section
variable {K : PySem.W.Frag} {ca : Str → Addr} {W : WX} {H0 F H F' H' F1 H1 F2 H2 B : Hp} {ρ ρ' ρ1 ρ2 : List Addr} {S S' S1 S2 : Store} {env : Env} {σ : L2.St} {v : V} {ev : EV} {Q : VK}
/-- the first part of a reading -/
theorem te1 {f : DE} {k : Env → EV → Store → RE} {R : VK} (h : dTE K ca W (fun env S => (f env S).bind (k env)) σ H Q)
    (hk : ∀ H0 F ρ S env, Sim K ca H0 F ρ S env σ H → ∀ x S1 v F1 H1 ρ1, Now K ca H0 env σ F H ρ F1 H1 ρ1 S1 → RepE K F1 ρ1 H env σ H1 v x → PostE K ca W H0 env σ F H ρ Q (k env x S1) → R v H1) : dTE K ca W f σ H R := by
  obtain ⟨H0, F, ρ, S, env, s, p⟩ := h
  refine ⟨H0, F, ρ, S, env, s, ?_⟩
  cases q : f env S with
  | ok x S1 =>
    simp only [q, RE.bind] at p
    exact fun v F1 H1 ρ1 n r => hk H0 F ρ S env s x S1 v F1 H1 ρ1 n r p
  | raise e S1 =>
    simp only [q, RE.bind] at p
    exact p
  | stuck =>
    simp only [q, RE.bind] at p
    exact p
/-- a further part -/
theorem te2 {g : DE} {k : EV → Store → RE} {R : VK} (n : Now K ca H0 env σ F H ρ F1 H1 ρ1 S1) (p : PostE K ca W H0 env σ F H ρ Q ((g env S1).bind k))
    (hk : ∀ y S2 v F2 H2 ρ2, Now K ca H0 env σ F H ρ F2 H2 ρ2 S2 → Stp F1 H1 ρ1 F2 H2 ρ2 → RepE K F2 ρ2 H1 env σ H2 v y → PostE K ca W H0 env σ F H ρ Q (k y S2) → R v H2) : dTE K ca W g σ H1 R := by
  refine ⟨H0, F1, ρ1, S1, env, n.sim, ?_⟩
  cases q : g env S1 with
  | ok x S2 =>
    simp only [q, RE.bind] at p
    exact fun v F2 H2 ρ2 n2 r => hk x S2 v F2 H2 ρ2 ⟨n.stp.trans n2.stp, n2.sim⟩ n2.stp r p
  | raise e S1 =>
    simp only [q, RE.bind] at p
    exact fun cls d F2 H2 ρ2 n2 r => p cls d F2 H2 ρ2 ⟨n.stp.trans n2.stp, n2.sim⟩ r
  | stuck =>
    simp only [q, RE.bind] at p
    exact p.elim
theorem tt1 {f : DE} {k : Env → Bool → Store → RE} {R : Bool → Hp → Prop} (h : dTE K ca W (fun env S => (f env S).bindB (k env)) σ H Q)
    (hk : ∀ H0 F ρ S env, Sim K ca H0 F ρ S env σ H → ∀ b S1 F1 H1 ρ1, Now K ca H0 env σ F H ρ F1 H1 ρ1 S1 → PostE K ca W H0 env σ F H ρ Q (k env b S1) → R b H1) : dTT K ca W f σ H R := by
  obtain ⟨H0, F, ρ, S, env, s, p⟩ := h
  refine ⟨H0, F, ρ, S, env, s, ?_⟩
  have p' : PostE K ca W H0 env σ F H ρ Q ((f env S).bindB (k env)) := p
  clear p
  revert p'
  cases q : f env S with
  | ok x S1 =>
    cases x with
    | d x =>
      cases x with
      | bool b => exact fun p F1 H1 ρ1 n => hk H0 F ρ S env s b S1 F1 H1 ρ1 n p
      | _ => exact fun p => p
    | _ => exact fun p => p
  | raise e S1 => exact fun p => p
  | stuck => exact fun p => p
theorem tt_te {f : DE} {R : Bool → Hp → Prop} (h : dTT K ca W f σ H R) : dTE K ca W f σ H (fun x H1 => ∃ k, x = .bl k ∧ R k H1) := by
  obtain ⟨H0, F, ρ, S, env, s, p⟩ := h
  refine ⟨H0, F, ρ, S, env, s, ?_⟩
  revert p
  cases q : f env S with
  | ok x S1 =>
    cases x with
    | d x =>
      cases x with
      | bool b =>
        refine fun p v F1 H1 ρ1 n r => ⟨b, ?_, p F1 H1 ρ1 n⟩
        cases r
        rfl
      | _ => exact fun p => p.elim
    | _ => exact fun p => p.elim
  | raise e S1 => exact fun p => p
  | stuck => exact fun p => p
/-- one test behind another -/
theorem tt2 {f : DE} {k : Env → Bool → Store → RE} {R R' : Bool → Hp → Prop} (h : dTT K ca W (fun env S => (f env S).bindB (k env)) σ H R)
    (hk : ∀ H0 F ρ S env, Sim K ca H0 F ρ S env σ H → ∀ b S1 F1 H1 ρ1, Now K ca H0 env σ F H ρ F1 H1 ρ1 S1 → PostT K ca W H0 env σ F H ρ R (k env b S1) → R' b H1) : dTT K ca W f σ H R' := by
  obtain ⟨H0, F, ρ, S, env, s, p⟩ := h
  refine ⟨H0, F, ρ, S, env, s, ?_⟩
  have p' : PostT K ca W H0 env σ F H ρ R ((f env S).bindB (k env)) := p
  clear p
  revert p'
  cases q : f env S with
  | ok x S1 =>
    cases x with
    | d x =>
      cases x with
      | bool b => exact fun p F1 H1 ρ1 n => hk H0 F ρ S env s b S1 F1 H1 ρ1 n p
      | _ => exact fun p => p
    | _ => exact fun p => p
  | raise e S1 => exact fun p => p
  | stuck => exact fun p => p
/-- from a state that is reached on -/
theorem PostE.on {r : RE} (n : Now K ca H0 env σ F H ρ F1 H1 ρ1 S1) (p : PostE K ca W H0 env σ F H ρ Q r) : PostE K ca W H0 env σ F1 H1 ρ1 Q r := by
  cases r with
  | ok x S2 => exact fun v F2 H2 ρ2 n2 r => p v F2 H2 ρ2 ⟨n.stp.trans n2.stp, n2.sim⟩ (r.base n.stp.mono)
  | raise e S2 => exact fun cls d F2 H2 ρ2 n2 r => p cls d F2 H2 ρ2 ⟨n.stp.trans n2.stp, n2.sim⟩ r
  | stuck => exact p
theorem PostT.on {r : RE} {R : Bool → Hp → Prop} (n : Now K ca H0 env σ F H ρ F1 H1 ρ1 S1) (p : PostT K ca W H0 env σ F H ρ R r) : PostT K ca W H0 env σ F1 H1 ρ1 R r := by
  revert p
  cases r with
  | ok x S2 =>
    cases x with
    | d x =>
      cases x with
      | bool b => exact fun p F2 H2 ρ2 n2 => p F2 H2 ρ2 ⟨n.stp.trans n2.stp, n2.sim⟩
      | _ => exact fun p => p
    | _ => exact fun p => p
  | raise e S2 => exact fun p cls d F2 H2 ρ2 n2 r => p cls d F2 H2 ρ2 ⟨n.stp.trans n2.stp, n2.sim⟩ r
  | stuck => exact fun p => p
end

/-! ### two-place operations -/
def RE2 (k : EV → EV → Store → RE) (fa fb : DE) : DE := fun env S => (fa env S).bind fun x S1 => (fb env S1).bind fun y S2 => k x y S2
def RE1 (k : EV → Store → RE) (fa : DE) : DE := fun env S => (fa env S).bind k
def toRE (S : Store) : Option EV → RE
  | some r => .ok r S
  | none => .stuck
def vOp (g : PyData → PyData → Option EV) : EV → EV → Store → RE := fun x y S => match x.view S, y.view S with
  | some a, some b => toRE S (g a b)
  | _, _ => .stuck
def vUn (g : PyData → Option EV) : EV → Store → RE := fun x S => match x.view S with
  | some a => toRE S (g a)
  | none => .stuck
section
variable (K : PySem.W.Frag) (ca : Str → Addr) (W : WX)
def OpD (r : R2) (k : EV → EV → Store → RE) : Prop := ∀ (H0 : Hp) (env : Env) (σ : L2.St) (F H : Hp) (ρ : List Addr) (F' H' : Hp) (ρ' : List Addr) (S' : Store) (v1 v2 : V) (x y : EV) (Q : VK),
  Now K ca H0 env σ F H ρ F' H' ρ' S' → RepE K F' ρ' H env σ H' v1 x → RepE K F' ρ' H env σ H' v2 y → PostE K ca W H0 env σ F H ρ Q (k x y S') → r v1 v2 H' Q
def OpV (r : R2) (g : PyData → PyData → Option EV) : Prop := ∀ (H0 : Hp) (env : Env) (σ : L2.St) (F H : Hp) (ρ : List Addr) (F' H' : Hp) (ρ' : List Addr) (S' : Store) (v1 v2 : V) (a b : PyData) (ev : EV) (Q : VK),
  Now K ca H0 env σ F H ρ F' H' ρ' S' → Vw K F' H' v1 a → Vw K F' H' v2 b → g a b = some ev → PostE K ca W H0 env σ F H ρ Q (.ok ev S') → r v1 v2 H' Q
def UnD (r : V → Hp → VK → Prop) (k : EV → Store → RE) : Prop := ∀ (H0 : Hp) (env : Env) (σ : L2.St) (F H : Hp) (ρ : List Addr) (F' H' : Hp) (ρ' : List Addr) (S' : Store) (v1 : V) (x : EV) (Q : VK),
  Now K ca H0 env σ F H ρ F' H' ρ' S' → RepE K F' ρ' H env σ H' v1 x → PostE K ca W H0 env σ F H ρ Q (k x S') → r v1 H' Q
def UnV (r : V → Hp → VK → Prop) (g : PyData → Option EV) : Prop := ∀ (H0 : Hp) (env : Env) (σ : L2.St) (F H : Hp) (ρ : List Addr) (F' H' : Hp) (ρ' : List Addr) (S' : Store) (v1 : V) (a : PyData) (ev : EV) (Q : VK),
  Now K ca H0 env σ F H ρ F' H' ρ' S' → Vw K F' H' v1 a → g a = some ev → PostE K ca W H0 env σ F H ρ Q (.ok ev S') → r v1 H' Q
end
section
variable {K : PySem.W.Frag} {ca : Str → Addr} {W : WX} {σ : L2.St} {H : Hp} {Q : VK} {r : R2} {fa fb : DE}
theorem OpV.d {g : PyData → PyData → Option EV} (h : OpV K ca W r g) : OpD K ca W r (vOp g) := by
  intro H0 env σ F H ρ F' H' ρ' S' v1 v2 x y Q n r1 r2 p
  unfold vOp at p
  cases q1 : x.view S' with
  | none => simp only [q1] at p; exact p.elim
  | some a =>
    cases q2 : y.view S' with
    | none => simp only [q1, q2] at p; exact p.elim
    | some b =>
      simp only [q1, q2] at p
      cases q3 : g a b with
      | none => simp only [q3, toRE] at p; exact p.elim
      | some ev =>
        simp only [q3, toRE] at p
        exact h H0 env σ F H ρ F' H' ρ' S' v1 v2 a b ev Q n (vw_of n.sim r1 q1) (vw_of n.sim r2 q2) q3 p
theorem UnV.d {r : V → Hp → VK → Prop} {g : PyData → Option EV} (h : UnV K ca W r g) : UnD K ca W r (vUn g) := by
  intro H0 env σ F H ρ F' H' ρ' S' v1 x Q n r1 p
  unfold vUn at p
  cases q1 : x.view S' with
  | none => simp only [q1] at p; exact p.elim
  | some a =>
    simp only [q1] at p
    cases q3 : g a with
    | none => simp only [q3, toRE] at p; exact p.elim
    | some ev =>
      simp only [q3, toRE] at p
      exact h H0 env σ F H ρ F' H' ρ' S' v1 a ev Q n (vw_of n.sim r1 q1) q3 p
theorem te_op {k : EV → EV → Store → RE} (o : OpD K ca W r k) (h : dTE K ca W (RE2 k fa fb) σ H Q) : tOp r (dTE K ca W fa) (dTE K ca W fb) σ H Q :=
  te1 h fun H0 F ρ S env s x S1 v F1 H1 ρ1 n r1 p => te2 n p fun y S2 v2 F2 H2 ρ2 n2 st r2 p2 =>
    o H0 env σ F H ρ F2 H2 ρ2 S2 v v2 x y Q n2 (r1.step st) (r2.base n.stp.mono) p2
theorem te_un {r : V → Hp → VK → Prop} {k : EV → Store → RE} (o : UnD K ca W r k) (h : dTE K ca W (RE1 k fa) σ H Q) : dTE K ca W fa σ H fun x H1 => r x H1 Q :=
  te1 (k := fun _ => k) h fun H0 F ρ S env s x S1 v F1 H1 ρ1 n r1 p => o H0 env σ F H ρ F1 H1 ρ1 S1 v x Q n r1 p
end
end DL

set_option Elab.async false
set_option linter.all false
set_option maxRecDepth 100000
set_option maxHeartbeats 4000000
/-! DL4: the rules of expressions, construct by construct. -/
namespace DL
open PySem PySem.Spec PyProof.Rows L2

def bE (b : Bool) : EV := .d (.bool b)
def iE (i : Int) : EV := .d (.int i)

/-! ### names, constants -/
def cE (x : PyData) : DE := fun _ S => .ok (.d x) S
def cO (v : V) : DE := fun _ S => .ok (.opq v) S
def EV.read : EV → EV
  | .own xs => .bor xs
  | .ownD ks => .borD ks
  | ev => ev
def rdE (i : Nat) : DE := fun env S => match env[i]? with
  | some (some ev) => .ok ev.read S
  | _ => .stuck
section
variable {X : Cx} {ca : Str → Addr} {W : WX}
theorem te_c {x : PyData} {v : V} (hd : ∀ F, Dr X.K F v x) : ∀ σ H Q, dTE X.K ca W (cE x) σ H Q → tC v σ H Q := fun σ H Q h => by
  obtain ⟨H0, F, ρ, S, env, s, p⟩ := h
  exact p v F H ρ ⟨Stp.refl _ _ _, s⟩ (hd F)
theorem te_o {v : V} : ∀ σ H Q, dTE X.K ca W (cO v) σ H Q → tC v σ H Q := fun σ H Q h => by
  obtain ⟨H0, F, ρ, S, env, s, p⟩ := h
  exact p v F H ρ ⟨Stp.refl _ _ _, s⟩ rfl
theorem je_int {i j pos} : JE X ca W (.Constant (.int i) j pos) (cE (.int i)) := imp_e pe_int (te_c fun _ => .int i)
theorem je_bl {b j pos} : JE X ca W (.Constant (.bool b) j pos) (cE (.bool b)) := imp_e pe_bl (te_c fun _ => .bl b)
theorem je_non {j pos} : JE X ca W (.Constant .none j pos) (cE .none) := imp_e pe_non (te_c fun _ => .non)
theorem je_str {x j pos} : JE X ca W (.Constant (.str x) j pos) (cE (.str x)) := imp_e pe_str (te_c fun _ => .str x)
theorem je_glob {x : Str} {v : V} {u : Value} {d : PyData} {pos : Pos} (hg : Gl X x) (hm : X.mg x = some u) (r : RelV v u) (hd : ∀ F, Dr X.K F v d) (hx : (x == ("__debug__" : Str)) = false := by decide) : JE X ca W (.Name x pos) (cE d) :=
  imp_e (pe_glob hg hm r hx) (te_c hd)
theorem je_globO {x : Str} {v : V} {u : Value} {pos : Pos} (hg : Gl X x) (hm : X.mg x = some u) (r : RelV v u) (hx : (x == ("__debug__" : Str)) = false := by decide) : JE X ca W (.Name x pos) (cO v) :=
  imp_e (pe_glob hg hm r hx) te_o
theorem je_bltn {x : Str} {v : V} {u : Value} {pos : Pos} (hg : Gl X x) (hm : X.mg x = none) (hv : bootBuiltins x = some u) (r : RelV v u) (hn : x ≠ "__name__" := by decide) (hx : (x == ("__debug__" : Str)) = false := by decide) : JE X ca W (.Name x pos) (cO v) :=
  imp_e (pe_bltn hg hm hv r hn hx) te_o
theorem read_rep {K : PySem.W.Frag} {H0 F H : Hp} {ρ : List Addr} {S : Store} {env : Env} {σ : L2.St} (s : Sim K ca H0 F ρ S env σ H) {i : Nat} {ev : EV} (e : env[i]? = some (some ev)) : ∃ v, σ[i]? = some (some v) ∧ RepE K F ρ H env σ H v ev.read := by
  obtain ⟨v, e1, r⟩ := s.slot i ev e
  refine ⟨v, e1, ?_⟩
  cases ev with
  | d x => exact r
  | own xs =>
    obtain ⟨a, vs, r1, _⟩ := r
    subst r1
    exact ⟨i, a, e, e1, rfl⟩
  | ownD xs =>
    obtain ⟨a, vs, r1, _⟩ := r
    subst r1
    exact ⟨i, a, e, e1, rfl⟩
  | bor xs => exact r.elim
  | borD xs => exact r.elim
  | ref l => exact r
  | scr l => exact r
  | opq l => exact r
  | fn l => exact r
theorem te_var {i : Nat} : ∀ σ H Q, dTE X.K ca W (rdE i) σ H Q → tVar i σ H Q := fun σ H Q h => by
  obtain ⟨H0, F, ρ, S, env, s, p⟩ := h
  unfold rdE at p
  cases q : env[i]? with
  | none => simp only [q] at p; exact p.elim
  | some o =>
    cases o with
    | none => simp only [q] at p; exact p.elim
    | some ev =>
      simp only [q] at p
      obtain ⟨v, e1, r⟩ := read_rep s q
      exact ⟨v, e1, p v F H ρ ⟨Stp.refl _ _ _, s⟩ r⟩
theorem jv (i : Nat) {x : Str} {pos : Pos} (hN : X.N[i]? = some x := by rfl) (hv : Vis X.env.scope x := by first | exact Or.inl rfl | exact Or.inr (Or.inl rfl) | exact Or.inr (Or.inr rfl)) (hd : (x == ("__debug__" : Str)) = false := by decide)
    (hcd : (x == ("__classdict__" : Str)) = false := by decide) : JE X ca W (.Name x pos) (rdE i) := imp_e (pe_var hN hv hd hcd) te_var
end

/-! ### argument lists, displays -/
def consA (f : DE) (as : DA) : DA := fun env S => (f env S).bindA fun x S1 => match x.fixed with
  | some x' => (as env S1).bindA fun xs S2 => .ok (x' :: xs) S2
  | none => .stuck
def asL : List DE → DA
  | [] => fun _ S => .ok [] S
  | f :: fs => consA f (asL fs)
def EV.dat : EV → Option PyData
  | .d x => some x
  | _ => none
def allD : List EV → Option (List PyData)
  | [] => some []
  | x :: xs => match x.dat, allD xs with
    | some d, some ds => some (d :: ds)
    | _, _ => none
def tupE (fs : List DE) : DE := fun env S => (asL fs env S).bind fun xs S1 => match allD xs with
  | some ds => .ok (.d (.tuple ds)) S1
  | none => .stuck
def lstE (fs : List DE) : DE := fun env S => (asL fs env S).bind fun xs S1 => match allD xs with
  | some ds => .ok (.own ds) S1
  | none => .stuck
theorem asL_len : ∀ (fs : List DE) (env : Env) (S S' : Store) (rs : List EV), asL fs env S = .ok rs S' → rs.length = fs.length
  | [], env, S, S', rs, h => by
    cases h
    rfl
  | f :: fs, env, S, S', rs, h => by
    unfold asL consA at h
    cases q : f env S with
    | ok x S1 =>
      simp only [q, RE.bindA] at h
      cases q2 : x.fixed with
      | none => simp only [q2] at h; cases h
      | some x' =>
        simp only [q2] at h
        cases q3 : asL fs env S1 with
        | ok xs S2 =>
          simp only [q3, RA.bindA] at h
          cases h
          rw [List.length_cons, List.length_cons, asL_len fs env S1 _ _ q3]
        | raise e S2 => simp only [q3, RA.bindA] at h; cases h
        | stuck => simp only [q3, RA.bindA] at h; cases h
    | raise e S1 => simp only [q, RE.bindA] at h; cases h
    | stuck => simp only [q, RE.bindA] at h; cases h
theorem allD_rep {K : PySem.W.Frag} {F B H : Hp} {ρ : List Addr} : ∀ {vs : List V} {rs : List EV} {ds : List PyData}, Paired (fun v r => RepV K F ρ B H v r) vs rs → allD rs = some ds → DrAll K F vs ds ∧ ds.length = rs.length
  | _, _, ds, .nil, e => by
    cases e
    exact ⟨.nil, rfl⟩
  | v :: vs, r :: rs, ds, .cons h t, e => by
    unfold allD at e
    cases q : r.dat with
    | none => simp only [q] at e; cases e
    | some d =>
      cases q2 : allD rs with
      | none => simp only [q, q2] at e; cases e
      | some ds' =>
        simp only [q, q2] at e
        cases e
        obtain ⟨h1, h2⟩ := allD_rep t q2
        have hr : r = .d d := by
          cases r with
          | d x => cases q; rfl
          | _ => cases q
        subst hr
        exact ⟨.cons h h1, by rw [List.length_cons, List.length_cons, h2]⟩
section
variable {X : Cx} {ca : Str → Addr} {W : WX} {e : Expr} {es : List Expr} {f : DE} {fs : List DE} {as : DA}
theorem ta_nil : ∀ σ H Q, dTA X.K ca W (asL []) σ H Q → tNil σ H Q := fun σ H Q h => by
  obtain ⟨H0, F, ρ, S, env, s, p⟩ := h
  exact p [] F H ρ ⟨Stp.refl _ _ _, s⟩ .nil
theorem ta_cons {K : PySem.W.Frag} : ∀ σ H Q, dTA K ca W (consA f as) σ H Q → tCons (dTE K ca W f) (dTA K ca W as) σ H Q := fun σ H Q h => by
  obtain ⟨H0, F, ρ, S, env, s, p⟩ := h
  refine ⟨H0, F, ρ, S, env, s, ?_⟩
  unfold consA at p
  cases q : f env S with
  | ok x S1 =>
    simp only [q, RE.bindA] at p
    cases q2 : x.fixed with
    | none => simp only [q2] at p; exact p.elim
    | some x' =>
      simp only [q2] at p
      intro v F1 H1 ρ1 n r
      obtain ⟨F2, n2, sm, r2⟩ := n.fixed s.old r q2
      refine ⟨H0, F2, ρ1, S1, env, n2.sim, ?_⟩
      cases q3 : as env S1 with
      | ok xs S2 =>
        simp only [q3, RA.bindA] at p
        intro vs F3 H3 ρ3 n3 rs
        refine p (v :: vs) F3 H3 ρ3 ⟨n2.stp.trans n3.stp, n3.sim⟩ (.cons (r2.step n3.stp) (Paired.mapP rs fun a b z => z.base n2.stp.mono))
      | raise ex S2 =>
        simp only [q3, RA.bindA] at p
        exact fun cls d F3 H3 ρ3 n3 r => p cls d F3 H3 ρ3 ⟨n2.stp.trans n3.stp, n3.sim⟩ r
      | stuck =>
        simp only [q3, RA.bindA] at p
        exact p.elim
  | raise ex S1 =>
    simp only [q, RE.bindA] at p
    exact p
  | stuck =>
    simp only [q, RE.bindA] at p
    exact p
theorem ja_nil : JA X ca W [] (asL []) := imp_a pa_nil ta_nil
theorem ja_cons (h : JE X ca W e f) (t : JA X ca W es (asL fs)) (hs : starEach (e :: es) X.env = (false, eval e X.env) :: starEach es X.env := by rfl) : JA X ca W (e :: es) (asL (f :: fs)) := imp_a (pa_cons h t hs) ta_cons
/-- the arguments' end -/
theorem ta_end {K : PySem.W.Frag} {σ : L2.St} {H : Hp} {Q : VK} {k : List EV → Store → RE} {R : List V → Hp → Prop} (h : dTE K ca W (fun env S => (as env S).bind k) σ H Q)
    (hk : ∀ H0 F ρ S env, Sim K ca H0 F ρ S env σ H → ∀ xs S1 vs F1 H1 ρ1, as env S = .ok xs S1 → Now K ca H0 env σ F H ρ F1 H1 ρ1 S1 → Paired (fun v r => RepV K F1 ρ1 H H1 v r) vs xs → PostE K ca W H0 env σ F H ρ Q (k xs S1) → R vs H1) : dTA K ca W as σ H R := by
  obtain ⟨H0, F, ρ, S, env, s, p⟩ := h
  refine ⟨H0, F, ρ, S, env, s, ?_⟩
  cases q : as env S with
  | ok xs S1 =>
    simp only [q, RA.bind] at p
    exact fun vs F1 H1 ρ1 n r => hk H0 F ρ S env s xs S1 vs F1 H1 ρ1 q n r p
  | raise e S1 =>
    simp only [q, RA.bind] at p
    exact p
  | stuck =>
    simp only [q, RA.bind] at p
    exact p
theorem te_tup (hz : fs.length ≤ 1000) : ∀ σ H Q, dTE X.K ca W (tupE fs) σ H Q → tTup (dTA X.K ca W (asL fs)) σ H Q := fun σ H Q h =>
  ta_end h fun H0 F ρ S env s xs S1 vs F1 H1 ρ1 e n r p => by
    have hl := asL_len _ _ _ _ _ e
    have hv := Paired.length r
    cases q : allD xs with
    | none => simp only [q] at p; exact p.elim
    | some ds =>
      simp only [q] at p
      obtain ⟨h1, h2⟩ := allD_rep r q
      exact ⟨by rw [sizeLine_eq]; omega, fun pt hp => fin_t n p h1 hp⟩
theorem te_lst (hz : fs.length ≤ 1000) : ∀ σ H Q, dTE X.K ca W (lstE fs) σ H Q → tLst (dTA X.K ca W (asL fs)) σ H Q := fun σ H Q h =>
  ta_end h fun H0 F ρ S env s xs S1 vs F1 H1 ρ1 e n r p => by
    have hl := asL_len _ _ _ _ _ e
    have hv := Paired.length r
    cases q : allD xs with
    | none => simp only [q] at p; exact p.elim
    | some ds =>
      simp only [q] at p
      obtain ⟨h1, h2⟩ := allD_rep r q
      exact ⟨by rw [sizeLine_eq]; omega, fun pt hp => fin_l n p h1 hp⟩
theorem je_tup {x1 pos} (h : JA X ca W es (asL fs)) (hz : fs.length ≤ 1000 := by decide) : JE X ca W (.Tuple es x1 pos) (tupE fs) := imp_e (pe_tup h) (te_tup hz)
theorem je_lst {pos} (h : JA X ca W es (asL fs)) (hz : fs.length ≤ 1000 := by decide) : JE X ca W (.List es pos) (lstE fs) := imp_e (pe_lst h) (te_lst hz)
end

/-! ### operators -/
def LIM : Nat := 16777216
theorem lim_eq : sizeLine = LIM := sizeLine_eq
def addG : PyData → PyData → Option EV
  | .int i, .int j => some (.d (.int (i + j)))
  | .str a, .str b => if a.length + b.length ≤ LIM then some (.d (.str (a ++ b))) else none
  | .tuple a, .tuple b => if a.length + b.length ≤ LIM then some (.d (.tuple (a ++ b))) else none
  | .list a, .list b => if a.length + b.length ≤ LIM then some (.own (a ++ b)) else none
  | _, _ => none
def subG : PyData → PyData → Option EV
  | .int i, .int j => some (.d (.int (i - j)))
  | _, _ => none
def mulG : PyData → PyData → Option EV
  | .int i, .int j => if (-(2 ^ 64) < i ∧ i < 2 ^ 64) ∨ (-(2 ^ 64) < j ∧ j < 2 ^ 64) then some (.d (.int (i * j))) else none
  | .list a, .int k => if -(2 ^ 63) ≤ k ∧ k < 2 ^ 63 ∧ a.length * k.toNat ≤ LIM then some (.own (List.replicate k.toNat a).flatten) else none
  | .tuple a, .int k => if a ≠ [] ∧ 2 ≤ k ∧ k ≤ 1000 ∧ a.length ≤ 1000 then some (.d (.tuple (List.replicate k.toNat a).flatten)) else none
  | _, _ => none
def modG : PyData → PyData → Option EV
  | .int i, .int j => if 0 < j then some (.d (.int (i % j))) else none
  | _, _ => none
def divG : PyData → PyData → Option EV
  | .int i, .int j => if 0 < j ∧ j < 1073741824 then some (.d (.int (i / j))) else none
  | _, _ => none
def powG : PyData → PyData → Option EV
  | .int i, .int j => if 0 ≤ j ∧ j ≤ 1000000 ∧ i.natAbs < 2 ^ 64 then some (.d (.int (i ^ j.toNat))) else none
  | _, _ => none
def ltG : PyData → PyData → Option EV
  | .int i, .int j => some (bE (decide (i < j)))
  | _, _ => none
def leG : PyData → PyData → Option EV
  | .int i, .int j => some (bE (decide (i ≤ j)))
  | _, _ => none
def gtG : PyData → PyData → Option EV
  | .int i, .int j => some (bE (decide (j < i)))
  | _, _ => none
def geG : PyData → PyData → Option EV
  | .int i, .int j => some (bE (decide (j ≤ i)))
  | _, _ => none
def eqG (x y : PyData) : Option EV := if SeqAt.shaped x = true ∧ SeqAt.shaped y = true then some (bE (PyData.eqv x y)) else none
def neG (x y : PyData) : Option EV := if SeqAt.shaped x = true ∧ SeqAt.shaped y = true then some (bE (!PyData.eqv x y)) else none
def isNG : PyData → Bool
  | .none => true
  | _ => false
def flatD : PyData → Bool
  | .none => true
  | .bool _ => true
  | .int _ => true
  | .str _ => true
  | _ => false
/-- x in a list or a tuple: flat things, or data in a list -/
def inG (neg : Bool) (x : PyData) : PyData → Option EV
  | .list ds => if SeqAt.shaped x = true ∧ SeqAt.shaped (.list ds) = true then some (bE (if neg then !(ds.any fun z => PyData.eqv z x) else ds.any fun z => PyData.eqv z x)) else none
  | .tuple ds => if flatD x = true ∧ ds.all flatD = true then some (bE (if neg then !(ds.any fun z => PyData.eqv z x) else ds.any fun z => PyData.eqv z x)) else none
  | _ => none
def ixG : PyData → PyData → Option EV
  | .list xs, .int i => (atI xs i).map .d
  | .tuple xs, .int i => (atI xs i).map .d
  | .str z, .int i => if z.length ≤ LIM then (atI z.cps.toList i).map fun c => .d (.str ⟨#[c]⟩) else none
  | _, _ => none
section
variable {K : PySem.W.Frag} {ca : Str → Addr} {W : WX}
def rAdd1 (K : PySem.W.Frag) : R2 := fun x y H Q => rI0 (fun i j => .int (i + j)) x y H Q ∨ (∃ i j, x = .str i ∧ y = .str j ∧ i.length + j.length ≤ sizeLine ∧ Q (.str (i ++ j)) H) ∨ rCatA K x y H Q ∨ rCat x y H Q
theorem op_add1 {X : Cx} : OpR X (binaryOp .Add) (rAdd1 X.K) := op_add.or (op_add_str.or (op_catA.or op_cat))
theorem opv_add : OpV K ca W (rAdd1 K) addG := by
  intro H0 env σ F H ρ F' H' ρ' S' v1 v2 a b ev Q n r1 r2 e p
  have hL := lim_eq
  unfold addG at e
  split at e
  · cases r1; cases r2; cases e
    exact .inl ⟨_, _, rfl, rfl, fin_d n p (.int _)⟩
  · cases r1; cases r2
    split at e
    · cases e
      exact .inr (.inl ⟨_, _, rfl, rfl, by omega, fin_d n p (.str _)⟩)
    · cases e
  · split at e
    · cases e
      cases r1 with
      | tup h1 d1 =>
        cases r2 with
        | tup h2 d2 =>
          have l1 := d1.length
          have l2 := d2.length
          refine .inr (.inr (.inl ⟨_, _, _, _, rfl, rfl, same_t n.sim.fz h1, same_t n.sim.fz h2, by omega, fun z => ?_, fun z z2 => ?_, fun z z2 pt hp => fin_t n p (d1.append d2) hp⟩))
          · subst z
            cases d1
            exact fin_d n p (.tup h2 d2)
          · subst z2
            cases d2
            refine fin_d n p ?_
            rw [List.append_nil]
            exact .tup h1 d1
    · cases e
  · split at e
    · cases e
      obtain ⟨a1, vs1, e1, h1, d1⟩ := r1
      obtain ⟨a2, vs2, e2, h2, d2⟩ := r2
      have l1 := d1.length
      have l2 := d2.length
      exact .inr (.inr (.inr ⟨a1, a2, vs1, vs2, e1, e2, h1, h2, by omega, fun pt hp => fin_l n p (d1.append d2) hp⟩))
    · cases e
  · cases e
theorem opv_int {g : PyData → PyData → Option EV} {f : Int → Int → V} (hg : ∀ a b ev, g a b = some ev → ∃ i j d, a = .int i ∧ b = .int j ∧ ev = .d d ∧ ∀ F, Dr K F (f i j) d) : OpV K ca W (rI0 f) g := by
  intro H0 env σ F H ρ F' H' ρ' S' v1 v2 a b ev Q n r1 r2 e p
  obtain ⟨i, j, d, rfl, rfl, rfl, hd⟩ := hg _ _ _ e
  cases r1; cases r2
  exact ⟨i, j, rfl, rfl, fin_d n p (hd _)⟩
theorem opv_intC {g : PyData → PyData → Option EV} {C : Int → Int → Prop} {f : Int → Int → V} (hg : ∀ a b ev, g a b = some ev → ∃ i j d, a = .int i ∧ b = .int j ∧ C i j ∧ ev = .d d ∧ ∀ F, Dr K F (f i j) d) : OpV K ca W (rI C f) g := by
  intro H0 env σ F H ρ F' H' ρ' S' v1 v2 a b ev Q n r1 r2 e p
  obtain ⟨i, j, d, rfl, rfl, hc, rfl, hd⟩ := hg _ _ _ e
  cases r1; cases r2
  exact ⟨i, j, rfl, rfl, hc, fin_d n p (hd _)⟩
theorem opv_sub : OpV K ca W (rI0 fun i j => .int (i - j)) subG := opv_int fun a b ev e => by
  unfold subG at e
  split at e
  · cases e; exact ⟨_, _, _, rfl, rfl, rfl, fun _ => .int _⟩
  · cases e
theorem opv_lt : OpV K ca W (rI0 fun i j => .bl (decide (i < j))) ltG := opv_int fun a b ev e => by
  unfold ltG at e
  split at e
  · cases e; exact ⟨_, _, _, rfl, rfl, rfl, fun _ => .bl _⟩
  · cases e
theorem opv_le : OpV K ca W (rI0 fun i j => .bl (decide (i ≤ j))) leG := opv_int fun a b ev e => by
  unfold leG at e
  split at e
  · cases e; exact ⟨_, _, _, rfl, rfl, rfl, fun _ => .bl _⟩
  · cases e
theorem opv_gt : OpV K ca W (rI0 fun i j => .bl (decide (j < i))) gtG := opv_int fun a b ev e => by
  unfold gtG at e
  split at e
  · cases e; exact ⟨_, _, _, rfl, rfl, rfl, fun _ => .bl _⟩
  · cases e
theorem opv_ge : OpV K ca W (rI0 fun i j => .bl (decide (j ≤ i))) geG := opv_int fun a b ev e => by
  unfold geG at e
  split at e
  · cases e; exact ⟨_, _, _, rfl, rfl, rfl, fun _ => .bl _⟩
  · cases e
theorem opv_mod : OpV K ca W (rI (fun _ j => 0 < j) fun i j => .int (i % j)) modG := opv_intC fun a b ev e => by
  unfold modG at e
  split at e
  · split at e
    · rename_i h
      cases e; exact ⟨_, _, _, rfl, rfl, h, rfl, fun _ => .int _⟩
    · cases e
  · cases e
theorem opv_div : OpV K ca W (rI CDiv fun i j => .int (i / j)) divG := opv_intC fun a b ev e => by
  unfold divG at e
  split at e
  · split at e
    · rename_i h
      cases e; exact ⟨_, _, _, rfl, rfl, h, rfl, fun _ => .int _⟩
    · cases e
  · cases e
theorem opv_pow : OpV K ca W (rI CPow fun i j => .int (i ^ j.toNat)) powG := opv_intC fun a b ev e => by
  unfold powG at e
  split at e
  · split at e
    · rename_i h
      cases e; exact ⟨_, _, _, rfl, rfl, h, rfl, fun _ => .int _⟩
    · cases e
  · cases e
def rMul1 (K : PySem.W.Frag) : R2 := fun x y H Q => rI CMul (fun i j => .int (i * j)) x y H Q ∨ rRep x y H Q ∨ rRepT K x y H Q
theorem op_mul1 {X : Cx} : OpR X (binaryOp .Mult) (rMul1 X.K) := op_mul.or (op_rep.or op_repT)
theorem opv_mul : OpV K ca W (rMul1 K) mulG := by
  intro H0 env σ F H ρ F' H' ρ' S' v1 v2 a b ev Q n r1 r2 e p
  have hL := lim_eq
  unfold mulG at e
  split at e
  · cases r1; cases r2
    split at e
    · rename_i h
      cases e
      exact .inl ⟨_, _, rfl, rfl, h, fin_d n p (.int _)⟩
    · cases e
  · cases r2
    split at e
    · rename_i h
      cases e
      obtain ⟨a1, vs1, e1, h1, d1⟩ := r1
      have l1 := d1.length
      exact .inr (.inl ⟨a1, _, vs1, e1, rfl, h1, h.1, h.2.1, by rw [l1]; have := h.2.2; omega, fun pt hp => fin_l n p (d1.rep _) hp⟩)
    · cases e
  · cases r2
    split at e
    · rename_i h
      cases e
      cases r1 with
      | tup h1 d1 =>
        have l1 := d1.length
        refine .inr (.inr ⟨_, _, _, rfl, rfl, same_t n.sim.fz h1, fun z => ?_, h.2.1, h.2.2.1, by rw [l1]; exact h.2.2.2, fun pt hp => fin_t n p (d1.rep _) hp⟩)
        subst z
        cases d1
        exact h.1 rfl
    · cases e
  · cases e
theorem opv_eq : OpV K ca W (rEqD K) eqG := by
  intro H0 env σ F H ρ F' H' ρ' S' v1 v2 a b ev Q n r1 r2 e p
  unfold eqG at e
  split at e
  · rename_i h
    cases e
    exact ⟨a, b, vw_dp n.sim.fz r1 (SeqAt.canLay_of_shaped h.1), vw_dp n.sim.fz r2 (SeqAt.canLay_of_shaped h.2), h.1, h.2, fin_d n p (.bl _)⟩
  · cases e
theorem opv_ne : OpV K ca W (rNeD K) neG := by
  intro H0 env σ F H ρ F' H' ρ' S' v1 v2 a b ev Q n r1 r2 e p
  unfold neG at e
  split at e
  · rename_i h
    cases e
    exact ⟨a, b, vw_dp n.sim.fz r1 (SeqAt.canLay_of_shaped h.1), vw_dp n.sim.fz r2 (SeqAt.canLay_of_shaped h.2), h.1, h.2, fin_d n p (.bl _)⟩
  · cases e
theorem flat_v {F : Hp} {v : V} {x : PyData} (r : Dr K F v x) (h : flatD x = true) : flatV v = true := by
  cases r <;> first | rfl | exact absurd (show false = true from h) Bool.false_ne_true
theorem flat_eq {F : Hp} {v w : V} {x y : PyData} (r : Dr K F v x) (q : Dr K F w y) (h : flatD x = true) (h2 : flatD y = true) : eqV v w = PyData.eqv x y := by
  cases r <;> cases q <;> first | (simp only [eqV, PyData.eqv]; done) | rfl | exact absurd (show false = true from h) Bool.false_ne_true | exact absurd (show false = true from h2) Bool.false_ne_true
theorem flat_all {F : Hp} : ∀ {vs : List V} {xs : List PyData}, DrAll K F vs xs → xs.all flatD = true → vs.all flatV = true
  | _, _, .nil, _ => rfl
  | _, _, .cons h r, e => by
    simp only [List.all_cons, Bool.and_eq_true] at e ⊢
    exact ⟨flat_v h e.1, flat_all r e.2⟩
theorem flat_any {F : Hp} {w : V} {y : PyData} (q : Dr K F w y) (hy : flatD y = true) : ∀ {vs : List V} {xs : List PyData}, DrAll K F vs xs → xs.all flatD = true → inV w vs = xs.any fun z => PyData.eqv z y
  | _, _, .nil, _ => rfl
  | _, _, .cons h r, e => by
    simp only [List.all_cons, Bool.and_eq_true] at e
    have ih := flat_any q hy r e.2
    unfold inV at ih ⊢
    rw [List.any_cons, List.any_cons, ih, flat_eq h q e.1 hy]
def rIn1 (K : PySem.W.Frag) (neg : Bool) : R2 := fun x y H Q => rIn K neg x y H Q ∨ (if neg then rNotInD K x y H Q else rInD K x y H Q)
theorem op_in1 {X : Cx} (hu : X.A.units + 65 < cLine) : OpR X (compareOp .In) (rIn1 X.K false) := op_in_seq.or (op_inD hu)
theorem op_notIn1 {X : Cx} (hu : X.A.units + 65 < cLine) : OpR X (compareOp .NotIn) (rIn1 X.K true) := op_notIn_seq.or (op_notInD hu)
theorem opv_in {neg : Bool} : OpV K ca W (rIn1 K neg) (inG neg) := by
  intro H0 env σ F H ρ F' H' ρ' S' v1 v2 a b ev Q n r1 r2 e p
  unfold inG at e
  split at e
  · split at e
    · rename_i h
      cases e
      refine .inr ?_
      have h1 := vw_dp n.sim.fz r1 (SeqAt.canLay_of_shaped h.1)
      have h2 := vw_dp n.sim.fz r2 (SeqAt.canLay_of_shaped h.2)
      cases neg with
      | true => exact ⟨a, _, h1, h2, h.1, h.2, fin_d n p (.bl _)⟩
      | false => exact ⟨a, _, h1, h2, h.1, h.2, fin_d n p (.bl _)⟩
    · cases e
  · split at e
    · rename_i h
      cases e
      have ra : Dr K F' v1 a := by
        cases a <;> first | exact r1 | exact absurd (show false = true from h.1) Bool.false_ne_true
      cases r2 with
      | tup h2 d2 =>
        refine .inl ⟨_, _, rfl, .inr (same_t n.sim.fz h2), flat_v ra h.1, flat_all d2 h.2, ?_⟩
        rw [flat_any ra h.1 d2 h.2]
        exact fin_d n p (.bl _)
    · cases e
  · cases e
theorem atI_rep {F : Hp} {vs : List V} {xs : List PyData} (r : DrAll K F vs xs) {i : Int} {x : PyData} (e : atI xs i = some x) : ∃ v, atI vs i = some v ∧ Dr K F v x := by
  unfold atI at e ⊢
  rw [r.length]
  cases q : ixN xs.length i with
  | none => rw [q] at e; cases e
  | some j =>
    rw [q] at e
    obtain ⟨v, h1, h2⟩ := r.get e
    exact ⟨v, h1, h2⟩
theorem opv_ix : OpV K ca W (rIx K) ixG := by
  intro H0 env σ F H ρ F' H' ρ' S' v1 v2 a b ev Q n r1 r2 e p
  have hL := lim_eq
  unfold ixG at e
  split at e
  · cases r2
    obtain ⟨a1, vs1, e1, h1, d1⟩ := r1
    obtain ⟨x, ex, e⟩ := Option.map_eq_some_iff.mp e
    subst e
    obtain ⟨v, q1, q2⟩ := atI_rep d1 ex
    exact .inl ⟨a1, vs1, _, v, e1, rfl, SqL.of h1, q1, fin_d n p q2⟩
  · cases r2
    obtain ⟨x, ex, e⟩ := Option.map_eq_some_iff.mp e
    subst e
    cases r1 with
    | tup h1 d1 =>
      obtain ⟨v, q1, q2⟩ := atI_rep d1 ex
      exact .inr (.inl ⟨_, _, _, v, rfl, rfl, same_t n.sim.fz h1, q1, fin_d n p q2⟩)
  · cases r1; cases r2
    split at e
    · obtain ⟨c, ec, e⟩ := Option.map_eq_some_iff.mp e
      subst e
      exact .inr (.inr ⟨_, _, c, rfl, rfl, by omega, ec, fin_d n p (.str _)⟩)
    · cases e
  · cases e
end
abbrev addE : DE → DE → DE := RE2 (vOp addG)
abbrev subE : DE → DE → DE := RE2 (vOp subG)
abbrev mulE : DE → DE → DE := RE2 (vOp mulG)
abbrev modE : DE → DE → DE := RE2 (vOp modG)
abbrev divE : DE → DE → DE := RE2 (vOp divG)
abbrev powE : DE → DE → DE := RE2 (vOp powG)
abbrev ltE : DE → DE → DE := RE2 (vOp ltG)
abbrev leE : DE → DE → DE := RE2 (vOp leG)
abbrev gtE : DE → DE → DE := RE2 (vOp gtG)
abbrev geE : DE → DE → DE := RE2 (vOp geG)
abbrev eqE : DE → DE → DE := RE2 (vOp eqG)
abbrev neE : DE → DE → DE := RE2 (vOp neG)
abbrev inE : DE → DE → DE := RE2 (vOp (inG false))
abbrev ninE : DE → DE → DE := RE2 (vOp (inG true))
/-- script[k], or an item -/
def kIx : EV → EV → Store → RE := fun x y S => match x, y with
  | .scr ns, .d (.int i) => match atI ns i with
    | some n => .ok (.d (.int n)) S
    | none => .stuck
  | _, _ => vOp ixG x y S
abbrev ixE : DE → DE → DE := RE2 kIx
section
variable {X : Cx} {ca : Str → Addr} {W : WX} {a b : Expr} {fa fb : DE} {pos : Pos}
theorem je_op {op : Operator} {r : R2} {k : EV → EV → Store → RE} (o : OpR X (binaryOp op) r) (d : OpD X.K ca W r k) (ha : JE X ca W a fa) (hb : JE X ca W b fb) : JE X ca W (.BinOp a op b pos) (RE2 k fa fb) :=
  imp_e (pe_op o ha hb) fun σ H Q h => te_op d h
theorem je_add (ha : JE X ca W a fa) (hb : JE X ca W b fb) : JE X ca W (.BinOp a .Add b pos) (addE fa fb) := je_op op_add1 opv_add.d ha hb
theorem je_sub (ha : JE X ca W a fa) (hb : JE X ca W b fb) : JE X ca W (.BinOp a .Sub b pos) (subE fa fb) := je_op op_sub opv_sub.d ha hb
theorem je_mul (ha : JE X ca W a fa) (hb : JE X ca W b fb) : JE X ca W (.BinOp a .Mult b pos) (mulE fa fb) := je_op op_mul1 opv_mul.d ha hb
theorem je_mod (ha : JE X ca W a fa) (hb : JE X ca W b fb) : JE X ca W (.BinOp a .Mod b pos) (modE fa fb) := je_op op_mod opv_mod.d ha hb
theorem je_div (ha : JE X ca W a fa) (hb : JE X ca W b fb) : JE X ca W (.BinOp a .FloorDiv b pos) (divE fa fb) := je_op op_fdiv opv_div.d ha hb
theorem je_pow (ha : JE X ca W a fa) (hb : JE X ca W b fb) : JE X ca W (.BinOp a .Pow b pos) (powE fa fb) := je_op op_pow opv_pow.d ha hb
theorem je_cmp {op : CmpOp} {r : R2} {k : EV → EV → Store → RE} (o : OpR X (compareOp op) r) (d : OpD X.K ca W r k) (ha : JE X ca W a fa) (hb : JE X ca W b fb) (hm : behindInMarks op b = false) : JE X ca W (.Compare a [op] [b] pos) (RE2 k fa fb) :=
  imp_e (pe_cmpR o ha hb hm) fun σ H Q h => te_op d h
theorem jt_cmp {op : CmpOp} {r : R2} {k : EV → EV → Store → RE} (o : OpR X (compareOp op) r) (d : OpD X.K ca W r k) (ha : JE X ca W a fa) (hb : JE X ca W b fb) (hm : behindInMarks op b = false) : JT X ca W (.Compare a [op] [b] pos) (RE2 k fa fb) :=
  imp_t (pt_cmpR o ha hb hm) fun σ H Q h => te_op d (tt_te h)
theorem opd_ix {K : PySem.W.Frag} : OpD K ca W (rIx K) kIx := by
  intro H0 env σ F H ρ F' H' ρ' S' v1 v2 x y Q n r1 r2 p
  unfold kIx at p
  split at p
  · obtain ⟨ad, e1, hs⟩ := r1
    cases r2
    rename_i ns i
    cases q : atI ns i with
    | none => simp only [q] at p; exact p.elim
    | some m =>
      simp only [q] at p
      subst e1
      refine .inl ⟨ad, _, i, .int m, rfl, rfl, same_l n.sim.fz hs, ?_, fin_d n p (.int m)⟩
      unfold atI at q ⊢
      rw [List.length_map]
      cases q2 : ixN ns.length i with
      | none => rw [q2] at q; cases q
      | some j =>
        rw [q2] at q
        show (ns.map V.int)[j]? = _
        rw [List.getElem?_map, show ns[j]? = some m from q]
        rfl
  · exact opv_ix.d H0 env σ F H ρ F' H' ρ' S' v1 v2 _ _ Q n r1 r2 p
theorem je_ix (ha : JE X ca W a fa) (hb : JE X ca W b fb) (hs : PlainIx b := by exact fun _ _ => rfl) : JE X ca W (.Subscript a b pos) (ixE fa fb) :=
  imp_e (pe_ix ix_seq ha hb hs) fun σ H Q h => te_op opd_ix h
end
end DL

set_option Elab.async false
set_option linter.all false
set_option maxRecDepth 100000
set_option maxHeartbeats 4000000
/-! DL5: slices, tests, calls of built-ins. -/
namespace DL
open PySem PySem.Spec PyProof.Rows L2

/-! ### slices -/
def partE : Option DE → DE
  | none => fun _ S => .ok (.d .none) S
  | some f => fun env S => (f env S).bind fun v S1 => match v with
    | .d (.int i) => .ok (.d (.int i)) S1
    | _ => .stuck
def optEV : Option Int → EV
  | none => .d .none
  | some i => .d (.int i)
def cutD (xs : List PyData) (lo hi : Option Int) : List PyData := (xs.drop (HT.sIx xs.length 0 lo)).take (HT.sIx xs.length xs.length hi - HT.sIx xs.length 0 lo)
def slG (x : PyData) (lo hi : Option Int) : Option EV := match x with
  | .list xs => some (.own (cutD xs lo hi))
  | .tuple xs => some (.d (.tuple (cutD xs lo hi)))
  | .str z => if z.length ≤ LIM then some (.d (.str (cutS z lo hi))) else none
  | _ => none
def evOpt : EV → Option (Option Int)
  | .d .none => some none
  | .d (.int i) => some (some i)
  | _ => none
def kSl (x l u : EV) (S : Store) : RE := match x.view S, evOpt l, evOpt u with
  | some a, some lo, some hi => toRE S (slG a lo hi)
  | _, _, _ => .stuck
def slE (f : DE) (lo hi : Option DE) : DE := fun env S => (f env S).bind fun x S1 => (partE lo env S1).bind fun l S2 => (partE hi env S2).bind fun u S3 => kSl x l u S3
def tPt (K : PySem.W.Frag) (ca : Str → Addr) (W : WX) : Option DE → TO
  | none => tNoPart
  | some f => tPart (dTE K ca W f)
abbrev JO (X : Cx) (ca : Str → Addr) (W : WX) (e : Option Expr) (o : Option DE) : Prop := PO X e (tPt X.K ca W o)
section
variable {K : PySem.W.Frag} {ca : Str → Addr} {W : WX} {H0 F H F' H' F1 H1 F2 H2 B : Hp} {ρ ρ' ρ1 ρ2 : List Addr} {S S' S1 S2 : Store} {env : Env} {σ : L2.St} {v : V} {ev : EV} {Q : VK}
theorem po2 {lo : Option DE} {k : EV → Store → RE} {R : Option Int → Hp → Prop} (n : Now K ca H0 env σ F H ρ F1 H1 ρ1 S1) (p : PostE K ca W H0 env σ F H ρ Q ((partE lo env S1).bind k))
    (hk : ∀ o S2 F2 H2 ρ2, Now K ca H0 env σ F H ρ F2 H2 ρ2 S2 → Stp F1 H1 ρ1 F2 H2 ρ2 → PostE K ca W H0 env σ F H ρ Q (k (optEV o) S2) → R o H2) : tPt K ca W lo σ H1 R := by
  cases lo with
  | none => exact hk none S1 F1 H1 ρ1 n (Stp.refl _ _ _) p
  | some f =>
    have p2 : PostE K ca W H0 env σ F H ρ Q ((f env S1).bind fun v S1 => RE.bind (match v with
      | .d (.int i) => RE.ok (.d (.int i)) S1
      | _ => .stuck) k) := by
      unfold partE at p
      cases q : f env S1 with
      | ok x S2 => simp only [q, RE.bind] at p ⊢; exact p
      | raise e S2 => simp only [q, RE.bind] at p ⊢; exact p
      | stuck => simp only [q, RE.bind] at p ⊢; exact p
    refine te2 n p2 fun y S2 v F2 H2 ρ2 n2 st r p3 => ?_
    cases y with
    | d x =>
      cases x with
      | int i =>
        cases r
        exact ⟨i, rfl, hk (some i) S2 F2 H2 ρ2 n2 st p3⟩
      | _ => exact p3.elim
    | _ => exact p3.elim
def rSl1 (K : PySem.W.Frag) : V → Option Int → Option Int → Hp → VK → Prop := fun x lo hi H Q => rSlL K x lo hi H Q ∨ rSlA K x lo hi H Q ∨ rSlS x lo hi H Q
theorem sl_1 {X : Cx} : SlR X (rSl1 X.K) := sl_list.or (sl_tupA.or sl_str)
theorem cut_rep {vs : List V} {xs : List PyData} (r : DrAll K F vs xs) (lo hi : Option Int) : DrAll K F (cutV vs lo hi) (cutD xs lo hi) := by
  unfold cutV cutD
  rw [r.length]
  exact (r.drop _).take _
theorem te_sl {f : DE} {lo hi : Option DE} (h : dTE K ca W (slE f lo hi) σ H Q) : tSl (rSl1 K) (dTE K ca W f) (tPt K ca W lo) (tPt K ca W hi) σ H Q :=
  te1 (k := fun env x S1 => (partE lo env S1).bind fun l S2 => (partE hi env S2).bind fun u S3 => kSl x l u S3) h fun H0 F ρ S env s x S1 v F1 H1 ρ1 n r p =>
    po2 n p fun l S2 F2 H2 ρ2 n2 st2 p2 => po2 n2 p2 fun u S3 F3 H3 ρ3 n3 st3 p3 => by
      have r3 := (r.step st2).step st3
      have hL := lim_eq
      have ho : ∀ o, evOpt (optEV o) = some o := fun o => by cases o <;> rfl
      unfold kSl at p3
      rw [ho, ho] at p3
      cases q : x.view S3 with
      | none => simp only [q] at p3; exact p3.elim
      | some a =>
        simp only [q] at p3
        have w := vw_of n3.sim r3 q
        cases q2 : slG a l u with
        | none => simp only [q2, toRE] at p3; exact p3.elim
        | some ev =>
          simp only [q2, toRE] at p3
          unfold slG at q2
          split at q2
          · cases q2
            obtain ⟨a1, vs1, e1, h1, d1⟩ := w
            exact .inl ⟨a1, vs1, e1, SqL.of h1, fun pt hp => fin_l n3 p3 (cut_rep d1 l u) hp⟩
          · cases q2
            cases w with
            | tup h1 d1 =>
              refine .inr (.inl ⟨_, _, rfl, same_t n3.sim.fz h1, fun z => ?_, fun z pt hp => fin_t n3 p3 (cut_rep d1 l u) hp⟩)
              refine fin_d n3 p3 ?_
              have e : ∀ zs : List PyData, zs.length = zs.length → cutD zs l u = cutD zs l u := fun _ _ => rfl
              rename_i xs _ vs
              have hl := d1.length
              have : cutD xs l u = xs := by
                unfold cutD
                rw [← hl, z.1, z.2, hl, List.drop_zero, Nat.sub_zero, List.take_length]
              rw [this]
              exact .tup h1 d1
          · cases w
            split at q2
            · cases q2
              exact .inr (.inr ⟨_, rfl, by omega, fin_d n3 p3 (.str _)⟩)
            · cases q2
          · cases q2
end
section
variable {X : Cx} {ca : Str → Addr} {W : WX} {a b c : Expr} {es : List Expr} {fa fb fc : DE} {pos : Pos}
theorem jo_none : JO X ca W none none := po_none
theorem jo_some (h : JE X ca W a fa) : JO X ca W (some a) (some fa) := po_some h
theorem je_sl {lo hi : Option Expr} {fl fh : Option DE} {p2 : Pos} (h : JE X ca W a fa) (hl : JO X ca W lo fl) (hh : JO X ca W hi fh) : JE X ca W (.Subscript a (.Slice lo hi none p2) pos) (slE fa fl fh) :=
  imp_e (pe_slice sl_1 h hl hh) fun σ H Q h => te_sl h
end
theorem te_mono {K : PySem.W.Frag} {ca : Str → Addr} {W : WX} {f : DE} {σ : L2.St} {H : Hp} {Q Q' : VK} (m : ∀ x H1, Q x H1 → Q' x H1) (h : dTE K ca W f σ H Q) : dTE K ca W f σ H Q' := by
  obtain ⟨H0, F, ρ, S, env, s, p⟩ := h
  refine ⟨H0, F, ρ, S, env, s, ?_⟩
  cases q : f env S with
  | ok x S1 =>
    simp only [q] at p
    exact fun v F1 H1 ρ1 n r => m _ _ (p v F1 H1 ρ1 n r)
  | raise e S1 =>
    simp only [q] at p
    exact p
  | stuck =>
    simp only [q] at p
    exact p
/-! ### xs[::-1] -/
def revG : PyData → Option EV
  | .list xs => some (.own xs.reverse)
  | _ => none
abbrev revE : DE → DE := RE1 (vUn revG)
section
variable {X : Cx} {ca : Str → Addr} {W : WX} {a b c : Expr} {es : List Expr} {fa fb fc : DE} {pos : Pos}
theorem unv_rev {K : PySem.W.Frag} : UnV K ca W (fun x H1 Q => ∃ a xs, x = .ref a ∧ SqL K H1 a xs ∧ ∀ p, H1 p = none → Q (.ref p) (upd H1 p (.lst xs.reverse))) revG := by
  intro H0 env σ F H ρ F' H' ρ' S' v1 a ev Q n r e p
  unfold revG at e
  split at e
  · cases e
    obtain ⟨a1, vs1, e1, h1, d1⟩ := r
    exact ⟨a1, vs1, e1, SqL.of h1, fun pt hp => fin_l n p d1.reverse hp⟩
  · cases e
theorem je_rev {k : Nat} {p1 p2 p3 : Pos} (h : JE X ca W a fa) : JE X ca W (.Subscript a (.Slice none none (some (.UnaryOp .USub (.Constant (.int 1) k p1) p2)) p3) pos) (revE fa) :=
  imp_e (pe_revL h) fun σ H Q h => te_un unv_rev.d h
/-! ### -x -/
def negG : PyData → Option EV
  | .int i => some (.d (.int (-i)))
  | _ => none
abbrev negE : DE → DE := RE1 (vUn negG)
theorem unv_neg {K : PySem.W.Frag} : UnV K ca W (rU fun i => .int (-i)) negG := by
  intro H0 env σ F H ρ F' H' ρ' S' v1 a ev Q n r e p
  unfold negG at e
  split at e
  · cases e
    cases r
    exact ⟨_, rfl, fin_d n p (.int _)⟩
  · cases e
theorem je_neg (h : JE X ca W a fa) : JE X ca W (.UnaryOp .USub a pos) (negE fa) := imp_e (pe_un un_neg h) fun σ H Q h => te_un unv_neg.d h
/-! ### is None -/
def EV.isN : EV → Bool
  | .d .none => true
  | _ => false
abbrev isNE : DE → DE := RE1 fun x S => .ok (bE x.isN) S
abbrev notNE : DE → DE := RE1 fun x S => .ok (bE (!x.isN)) S
theorem isN_rep {K : PySem.W.Frag} {F B H : Hp} {ρ : List Addr} {env : Env} {σ : L2.St} {v : V} {x : EV} (r : RepE K F ρ B env σ H v x) (hx : ∀ w, x ≠ .opq w) : decide (v = .non) = x.isN := by
  cases x with
  | d y => cases r <;> rfl
  | own xs => obtain ⟨a, vs, e, _⟩ := r; subst e; rfl
  | ownD xs => obtain ⟨a, vs, e, _⟩ := r; subst e; rfl
  | bor xs => obtain ⟨i, a, _, _, e⟩ := r; subst e; rfl
  | borD xs => obtain ⟨i, a, _, _, e⟩ := r; subst e; rfl
  | ref l => obtain ⟨a, e, _⟩ := r; subst e; rfl
  | scr l => obtain ⟨a, e, _⟩ := r; subst e; rfl
  | opq w => exact absurd rfl (hx w)
  | fn x => subst r; rfl
def kIsN (neg : Bool) : EV → Store → RE := fun x S => match x with
  | .opq _ => .stuck
  | x => .ok (bE (if neg then !x.isN else x.isN)) S
abbrev isE : DE → DE := RE1 (kIsN false)
abbrev isntE : DE → DE := RE1 (kIsN true)
theorem und_is {K : PySem.W.Frag} {neg : Bool} : UnD K ca W (fun x H1 Q => Q (.bl (if neg then !decide (x = .non) else decide (x = .non))) H1) (kIsN neg) := by
  intro H0 env σ F H ρ F' H' ρ' S' v1 x Q n r p
  have go : (∀ w, x ≠ .opq w) → PostE K ca W H0 env σ F H ρ Q (.ok (bE (if neg then !x.isN else x.isN)) S') → Q (.bl (if neg then !decide (v1 = .non) else decide (v1 = .non))) H' := fun hx p => by
    rw [isN_rep r hx]
    exact fin_d n p (.bl _)
  cases x with
  | opq w => exact p.elim
  | _ => exact go (fun w z => nomatch z) p
theorem je_is {j : Nat} {pos' : Pos} (h : JE X ca W a fa) : JE X ca W (.Compare a [.Is] [.Constant .none j pos'] pos) (isE fa) := imp_e (pe_cmp (pc_isN h)) fun σ H Q h => te_un (und_is (neg := false)) h
theorem je_isnt {j : Nat} {pos' : Pos} (h : JE X ca W a fa) : JE X ca W (.Compare a [.IsNot] [.Constant .none j pos'] pos) (isntE fa) := imp_e (pe_cmp (pc_notN h)) fun σ H Q h => te_un (und_is (neg := true)) h
theorem jt_is {j : Nat} {pos' : Pos} (h : JE X ca W a fa) : JT X ca W (.Compare a [.Is] [.Constant .none j pos'] pos) (isE fa) := imp_t (pt_cmp (pc_isN h)) fun σ H Q h => te_un (und_is (neg := false)) (tt_te h)
theorem jt_isnt {j : Nat} {pos' : Pos} (h : JE X ca W a fa) : JT X ca W (.Compare a [.IsNot] [.Constant .none j pos'] pos) (isntE fa) := imp_t (pt_cmp (pc_notN h)) fun σ H Q h => te_un (und_is (neg := true)) (tt_te h)
/-! ### comparisons -/
theorem je_lt (ha : JE X ca W a fa) (hb : JE X ca W b fb) : JE X ca W (.Compare a [.Lt] [b] pos) (ltE fa fb) := je_cmp op_lt opv_lt.d ha hb (nomark _)
theorem je_le (ha : JE X ca W a fa) (hb : JE X ca W b fb) : JE X ca W (.Compare a [.LtE] [b] pos) (leE fa fb) := je_cmp op_le opv_le.d ha hb (nomark _)
theorem je_gt (ha : JE X ca W a fa) (hb : JE X ca W b fb) : JE X ca W (.Compare a [.Gt] [b] pos) (gtE fa fb) := je_cmp op_gt opv_gt.d ha hb (nomark _)
theorem je_ge (ha : JE X ca W a fa) (hb : JE X ca W b fb) : JE X ca W (.Compare a [.GtE] [b] pos) (geE fa fb) := je_cmp op_ge opv_ge.d ha hb (nomark _)
theorem je_eq (hu : X.A.units + 64 < cLine) (ha : JE X ca W a fa) (hb : JE X ca W b fb) : JE X ca W (.Compare a [.Eq] [b] pos) (eqE fa fb) := je_cmp (op_eqD hu) opv_eq.d ha hb (nomark _)
theorem je_ne (hu : X.A.units + 64 < cLine) (ha : JE X ca W a fa) (hb : JE X ca W b fb) : JE X ca W (.Compare a [.NotEq] [b] pos) (neE fa fb) := je_cmp (op_neD hu) opv_ne.d ha hb (nomark _)
theorem je_in (hu : X.A.units + 65 < cLine) (ha : JE X ca W a fa) (hb : JE X ca W b fb) (hm : behindInMarks .In b = false := by first | rfl | with_unfolding_all rfl) : JE X ca W (.Compare a [.In] [b] pos) (inE fa fb) := je_cmp (op_in1 hu) opv_in.d ha hb hm
theorem je_nin (hu : X.A.units + 65 < cLine) (ha : JE X ca W a fa) (hb : JE X ca W b fb) (hm : behindInMarks .NotIn b = false := by first | rfl | with_unfolding_all rfl) : JE X ca W (.Compare a [.NotIn] [b] pos) (ninE fa fb) := je_cmp (op_notIn1 hu) opv_in.d ha hb hm
theorem jt_lt (ha : JE X ca W a fa) (hb : JE X ca W b fb) : JT X ca W (.Compare a [.Lt] [b] pos) (ltE fa fb) := jt_cmp op_lt opv_lt.d ha hb (nomark _)
theorem jt_le (ha : JE X ca W a fa) (hb : JE X ca W b fb) : JT X ca W (.Compare a [.LtE] [b] pos) (leE fa fb) := jt_cmp op_le opv_le.d ha hb (nomark _)
theorem jt_gt (ha : JE X ca W a fa) (hb : JE X ca W b fb) : JT X ca W (.Compare a [.Gt] [b] pos) (gtE fa fb) := jt_cmp op_gt opv_gt.d ha hb (nomark _)
theorem jt_ge (ha : JE X ca W a fa) (hb : JE X ca W b fb) : JT X ca W (.Compare a [.GtE] [b] pos) (geE fa fb) := jt_cmp op_ge opv_ge.d ha hb (nomark _)
theorem jt_eq (hu : X.A.units + 64 < cLine) (ha : JE X ca W a fa) (hb : JE X ca W b fb) : JT X ca W (.Compare a [.Eq] [b] pos) (eqE fa fb) := jt_cmp (op_eqD hu) opv_eq.d ha hb (nomark _)
theorem jt_ne (hu : X.A.units + 64 < cLine) (ha : JE X ca W a fa) (hb : JE X ca W b fb) : JT X ca W (.Compare a [.NotEq] [b] pos) (neE fa fb) := jt_cmp (op_neD hu) opv_ne.d ha hb (nomark _)
theorem jt_in (hu : X.A.units + 65 < cLine) (ha : JE X ca W a fa) (hb : JE X ca W b fb) (hm : behindInMarks .In b = false := by first | rfl | with_unfolding_all rfl) : JT X ca W (.Compare a [.In] [b] pos) (inE fa fb) := jt_cmp (op_in1 hu) opv_in.d ha hb hm
theorem jt_nin (hu : X.A.units + 65 < cLine) (ha : JE X ca W a fa) (hb : JE X ca W b fb) (hm : behindInMarks .NotIn b = false := by first | rfl | with_unfolding_all rfl) : JT X ca W (.Compare a [.NotIn] [b] pos) (ninE fa fb) := jt_cmp (op_notIn1 hu) opv_in.d ha hb hm
/-- a op b op' c, ints -/
def chE (g g' : PyData → PyData → Option EV) (fa fb fc : DE) : DE := fun env S => (fa env S).bind fun x S1 => (fb env S1).bind fun y S2 => (vOp g x y S2).bindB fun k S3 => if k = true then (fc env S3).bind fun z S4 => vOp g' y z S4 else .ok (bE false) S3
theorem te_ch {K : PySem.W.Frag} {r r' : R2} {g g' : PyData → PyData → Option EV} (hg : ∀ a b ev, g a b = some ev → ∃ k, ev = bE k) (o : OpV K ca W r g) (o' : OpV K ca W r' g') {σ : L2.St} {H : Hp} {Q : VK} (h : dTE K ca W (chE g g' fa fb fc) σ H Q) :
    tChain r r' (dTE K ca W fa) (dTE K ca W fb) (dTE K ca W fc) σ H Q :=
  te1 (k := fun env x S1 => (fb env S1).bind fun y S2 => (vOp g x y S2).bindB fun k S3 => if k = true then (fc env S3).bind fun z S4 => vOp g' y z S4 else .ok (bE false) S3) h fun H0 F ρ S env s x S1 v F1 H1 ρ1 n r1 p =>
    te2 n p fun y S2 v2 F2 H2 ρ2 n2 st r2 p2 => by
      unfold vOp at p2
      cases q1 : x.view S2 with
      | none => simp only [q1, RE.bindB] at p2; exact p2.elim
      | some a =>
        cases q2 : y.view S2 with
        | none => simp only [q1, q2, RE.bindB] at p2; exact p2.elim
        | some b =>
          cases q3 : g a b with
          | none => simp only [q1, q2, q3, toRE, RE.bindB] at p2; exact p2.elim
          | some ev =>
            obtain ⟨k, rfl⟩ := hg a b ev q3
            simp only [q1, q2, q3, toRE, bE, RE.bindB] at p2
            have r2' := r2.base n.stp.mono
            have s2 : Now K ca H0 env σ F2 H2 ρ2 F2 H2 ρ2 S2 := ⟨Stp.refl _ _ _, n2.sim⟩
            refine o H0 env σ F2 H2 ρ2 F2 H2 ρ2 S2 v v2 a b _ _ s2 (vw_of n2.sim (r1.step st) q1) (vw_of n2.sim r2' q2) q3 ?_
            intro w F3 H3 ρ3 n3 rw'
            cases rw'
            refine ⟨k, rfl, ?_⟩
            have n3' : Now K ca H0 env σ F H ρ F3 H3 ρ3 S2 := ⟨n2.stp.trans n3.stp, n3.sim⟩
            cases k with
            | false => exact iteF (fin_d n3' p2 (.bl _))
            | true =>
              refine iteT (te2 (k := fun z S4 => vOp g' y z S4) n3' p2 fun z S4 v4 F4 H4 ρ4 n4 st4 r4 p4 => ?_)
              exact o'.d H0 env σ F H ρ F4 H4 ρ4 S4 v2 v4 y z Q n4 ((r2'.step n3.stp).step st4) (r4.base n3'.stp.mono) p4
theorem je_leLe {c : Expr} (ha : JE X ca W a fa) (hb : JE X ca W b fb) (hc : JE X ca W c fc) (hm : lastMarks [.LtE, .LtE] [b, c] = false := by with_unfolding_all rfl) : JE X ca W (.Compare a [.LtE, .LtE] [b, c] pos) (chE leG leG fa fb fc) :=
  imp_e (pe_chain op_le op_le ha hb hc hm) fun σ H Q h => te_ch (fun a b ev e => by unfold leG at e; split at e <;> cases e; exact ⟨_, rfl⟩) opv_le opv_le h
theorem je_leLt {c : Expr} (ha : JE X ca W a fa) (hb : JE X ca W b fb) (hc : JE X ca W c fc) (hm : lastMarks [.LtE, .Lt] [b, c] = false := by with_unfolding_all rfl) : JE X ca W (.Compare a [.LtE, .Lt] [b, c] pos) (chE leG ltG fa fb fc) :=
  imp_e (pe_chain op_le op_lt ha hb hc hm) fun σ H Q h => te_ch (fun a b ev e => by unfold leG at e; split at e <;> cases e; exact ⟨_, rfl⟩) opv_le opv_lt h
theorem jt_leLe {c : Expr} (ha : JE X ca W a fa) (hb : JE X ca W b fb) (hc : JE X ca W c fc) (hm : lastMarks [.LtE, .LtE] [b, c] = false := by with_unfolding_all rfl) : JT X ca W (.Compare a [.LtE, .LtE] [b, c] pos) (chE leG leG fa fb fc) :=
  imp_t (pt_chain op_le op_le ha hb hc hm) fun σ H Q h => te_ch (fun a b ev e => by unfold leG at e; split at e <;> cases e; exact ⟨_, rfl⟩) opv_le opv_le (tt_te h)
theorem jt_leLt {c : Expr} (ha : JE X ca W a fa) (hb : JE X ca W b fb) (hc : JE X ca W c fc) (hm : lastMarks [.LtE, .Lt] [b, c] = false := by with_unfolding_all rfl) : JT X ca W (.Compare a [.LtE, .Lt] [b, c] pos) (chE leG ltG fa fb fc) :=
  imp_t (pt_chain op_le op_lt ha hb hc hm) fun σ H Q h => te_ch (fun a b ev e => by unfold leG at e; split at e <;> cases e; exact ⟨_, rfl⟩) opv_le opv_lt (tt_te h)
/-! ### truth, and, or, not, a if t else b -/
def truG : PyData → Option EV
  | .none => some (bE false)
  | .bool b => some (bE b)
  | .int i => some (bE (i != 0))
  | .str y => if y.length ≤ LIM then some (bE ((y.length : Int) != 0)) else none
  | .list xs => some (bE (!xs.isEmpty))
  | .tuple xs => some (bE (!xs.isEmpty))
  | .dict ks => some (bE (!ks.isEmpty))
abbrev truE : DE → DE := RE1 (vUn truG)
theorem empty_rep {K : PySem.W.Frag} {F : Hp} {vs : List V} {xs : List PyData} (r : DrAll K F vs xs) : (!xs.isEmpty) = !vs.isEmpty := by cases r <;> rfl
theorem emptyK_rep {K : PySem.W.Frag} {F : Hp} {vs : List (Key × V)} {xs : List (PyData × PyData)} (r : DrKv K F vs xs) : (!xs.isEmpty) = !vs.isEmpty := by cases r <;> rfl
theorem unv_tru {K : PySem.W.Frag} {R : Bool → Hp → Prop} : UnV K ca W (fun x H' Q => ∃ k, TruV K x H' k ∧ Q (.bl k) H') truG := by
  intro H0 env σ F H ρ F' H' ρ' S' v1 a ev Q n r e p
  have hL := lim_eq
  unfold truG at e
  split at e
  · cases e; cases r; exact ⟨false, rfl, fin_d n p (.bl _)⟩
  · cases e; cases r; exact ⟨_, rfl, fin_d n p (.bl _)⟩
  · cases e; cases r; exact ⟨_, rfl, fin_d n p (.bl _)⟩
  · split at e
    · cases e; cases r; exact ⟨_, ⟨by omega, rfl⟩, fin_d n p (.bl _)⟩
    · cases e
  · cases e
    obtain ⟨a1, vs1, e1, h1, d1⟩ := r
    subst e1
    exact ⟨_, .inl ⟨vs1, SqL.of h1, empty_rep d1⟩, fin_d n p (.bl _)⟩
  · cases e
    cases r with
    | tup h1 d1 => exact ⟨_, .inr (.inl ⟨_, same_t n.sim.fz h1, empty_rep d1⟩), fin_d n p (.bl _)⟩
  · cases e
    obtain ⟨a1, vs1, e1, h1, d1⟩ := r
    subst e1
    exact ⟨_, .inr (.inr ⟨vs1, h1, emptyK_rep d1⟩), fin_d n p (.bl _)⟩
theorem jt_tru (h : JE X ca W a fa) (he : ∀ whole, isTrue a X.env whole = (do let v ← whole; standAt a.pos; holding [v] (truthy v)) := by intro _; rfl) : JT X ca W a (truE fa) :=
  imp_t (pt_truth h he) fun σ H Q h => by
    have h2 := te_un (unv_tru (R := Q)).d (tt_te h)
    refine te_mono (fun x H1 q => ?_) h2
    obtain ⟨k, hk, k', e, q⟩ := q
    cases e
    exact ⟨k, hk, q⟩
end
end DL

set_option Elab.async false
set_option linter.all false
set_option maxRecDepth 100000
set_option maxHeartbeats 4000000
/-! DL6: and, or, not, built-ins by name. -/
namespace DL
open PySem PySem.Spec PyProof.Rows L2

def andE (fa fb : DE) : DE := fun env S => (fa env S).bindB fun k S1 => if k = true then fb env S1 else .ok (bE false) S1
def orE (fa fb : DE) : DE := fun env S => (fa env S).bindB fun k S1 => if k = true then .ok (bE true) S1 else fb env S1
def notE (fa : DE) : DE := fun env S => (fa env S).bindB fun k S1 => .ok (bE (!k)) S1
def ifE (ft fa fb : DE) : DE := fun env S => (ft env S).bindB fun k S1 => if k = true then fa env S1 else fb env S1
section
variable {K : PySem.W.Frag} {ca : Str → Addr} {W : WX} {σ : L2.St} {H : Hp} {Q : VK} {fa fb fc : DE}
/-- the first part, a bool -/
theorem te1B {f : DE} {k : Env → Bool → Store → RE} {R : VK} (h : dTE K ca W (fun env S => (f env S).bindB (k env)) σ H Q)
    (hk : ∀ H0 F ρ S env, Sim K ca H0 F ρ S env σ H → ∀ b S1 F1 H1 ρ1, Now K ca H0 env σ F H ρ F1 H1 ρ1 S1 → PostE K ca W H0 env σ F H ρ Q (k env b S1) → R (.bl b) H1) : dTE K ca W f σ H R := by
  have h2 : dTT K ca W f σ H (fun b H1 => R (.bl b) H1) := tt1 h fun H0 F ρ S env s b S1 F1 H1 ρ1 n p => hk H0 F ρ S env s b S1 F1 H1 ρ1 n p
  refine te_mono (fun x H1 q => ?_) (tt_te h2)
  obtain ⟨b, e, q⟩ := q
  subst e
  exact q
theorem go_on {g : DE} {F H' F1 H1 H0 : Hp} {ρ ρ1 : List Addr} {S1 : Store} {env : Env} (n : Now K ca H0 env σ F H ρ F1 H1 ρ1 S1) (p : PostE K ca W H0 env σ F H ρ Q (g env S1)) : dTE K ca W g σ H1 Q :=
  ⟨H0, F1, ρ1, S1, env, n.sim, PostE.on n p⟩
theorem go_onT {g : DE} {R : Bool → Hp → Prop} {F H' F1 H1 H0 : Hp} {ρ ρ1 : List Addr} {S1 : Store} {env : Env} (n : Now K ca H0 env σ F H ρ F1 H1 ρ1 S1) (p : PostT K ca W H0 env σ F H ρ R (g env S1)) : dTT K ca W g σ H1 R :=
  ⟨H0, F1, ρ1, S1, env, n.sim, PostT.on n p⟩
theorem te_and (h : dTE K ca W (andE fa fb) σ H Q) : tAndV (dTE K ca W fa) (dTE K ca W fb) σ H Q :=
  te1B (k := fun env k S1 => if k = true then fb env S1 else .ok (bE false) S1) h fun H0 F ρ S env s b S1 F1 H1 ρ1 n p => ⟨b, rfl, by
    cases b with
    | true => exact iteT (go_on (H' := H1) n p)
    | false => exact iteF (fin_d n p (.bl _))⟩
theorem te_or (h : dTE K ca W (orE fa fb) σ H Q) : tOrV (dTE K ca W fa) (dTE K ca W fb) σ H Q :=
  te1B (k := fun env k S1 => if k = true then .ok (bE true) S1 else fb env S1) h fun H0 F ρ S env s b S1 F1 H1 ρ1 n p => ⟨b, rfl, by
    cases b with
    | false => exact iteF (go_on (H' := H1) n p)
    | true => exact iteT (fin_d n p (.bl _))⟩
theorem te_not (h : dTE K ca W (notE fa) σ H Q) : tNotV (dTE K ca W fa) σ H Q :=
  te1B (k := fun env k S1 => .ok (bE (!k)) S1) h fun H0 F ρ S env s b S1 F1 H1 ρ1 n p => ⟨b, rfl, fin_d n p (.bl _)⟩
theorem te_if (h : dTE K ca W (ifE fa fb fc) σ H Q) : tIf (dTT K ca W fa) (dTE K ca W fb) (dTE K ca W fc) σ H Q :=
  tt1 (k := fun env k S1 => if k = true then fb env S1 else fc env S1) h fun H0 F ρ S env s b S1 F1 H1 ρ1 n p => by
    cases b with
    | true => exact iteT (go_on (H' := H1) n p)
    | false => exact iteF (go_on (H' := H1) n p)
theorem tt_and {R : Bool → Hp → Prop} (h : dTT K ca W (andE fa fb) σ H R) : tAnd (dTT K ca W fa) (dTT K ca W fb) σ H R :=
  tt2 (k := fun env k S1 => if k = true then fb env S1 else .ok (bE false) S1) h fun H0 F ρ S env s b S1 F1 H1 ρ1 n p => by
    cases b with
    | true => exact iteT (go_onT (H' := H1) n p)
    | false => exact iteF (p _ _ _ n)
theorem tt_or {R : Bool → Hp → Prop} (h : dTT K ca W (orE fa fb) σ H R) : tOr (dTT K ca W fa) (dTT K ca W fb) σ H R :=
  tt2 (k := fun env k S1 => if k = true then .ok (bE true) S1 else fb env S1) h fun H0 F ρ S env s b S1 F1 H1 ρ1 n p => by
    cases b with
    | false => exact iteF (go_onT (H' := H1) n p)
    | true => exact iteT (p _ _ _ n)
theorem tt_not {R : Bool → Hp → Prop} (h : dTT K ca W (notE fa) σ H R) : tNot (dTT K ca W fa) σ H R :=
  tt2 (k := fun env k S1 => .ok (bE (!k)) S1) h fun H0 F ρ S env s b S1 F1 H1 ρ1 n p => p _ _ _ n
end
section
variable {X : Cx} {ca : Str → Addr} {W : WX} {a b c : Expr} {es rest : List Expr} {fa fb fc : DE} {pos : Pos}
theorem je_one {op} (h : JE X ca W a fa) : JE X ca W (.BoolOp op [a] pos) fa := pe_one h
theorem je_and (ha : JE X ca W a fa) (hb : JE X ca W (.BoolOp .And (b :: rest) pos) fb) : JE X ca W (.BoolOp .And (a :: b :: rest) pos) (andE fa fb) := imp_e (pe_and ha hb) fun σ H Q h => te_and h
theorem je_or (ha : JE X ca W a fa) (hb : JE X ca W (.BoolOp .Or (b :: rest) pos) fb) : JE X ca W (.BoolOp .Or (a :: b :: rest) pos) (orE fa fb) := imp_e (pe_or ha hb) fun σ H Q h => te_or h
theorem je_not (ha : JE X ca W a fa) : JE X ca W (.UnaryOp .Not a pos) (notE fa) := imp_e (pe_not ha) fun σ H Q h => te_not h
theorem je_if (hc : JT X ca W c fc) (ha : JE X ca W a fa) (hb : JE X ca W b fb) : JE X ca W (.IfExp c a b pos) (ifE fc fa fb) := imp_e (pe_ifExp hc ha hb) fun σ H Q h => te_if h
theorem jw_and1 (ha : JT X ca W a fa) : JW X ca W (.BoolOp .And [a] pos) fa := pw_and1 ha
theorem jw_or1 (ha : JT X ca W a fa) : JW X ca W (.BoolOp .Or [a] pos) fa := pw_or1 ha
theorem jw_and (ha : JT X ca W a fa) (hb : JW X ca W (.BoolOp .And (b :: rest) pos) fb) : JW X ca W (.BoolOp .And (a :: b :: rest) pos) (andE fa fb) := imp_w (pw_and ha hb) fun σ H Q h => tt_and h
theorem jw_or (ha : JT X ca W a fa) (hb : JW X ca W (.BoolOp .Or (b :: rest) pos) fb) : JW X ca W (.BoolOp .Or (a :: b :: rest) pos) (orE fa fb) := imp_w (pw_or ha hb) fun σ H Q h => tt_or h
theorem jt_w (h : JW X ca W a fa) : JT X ca W a fa := PW.pt h
theorem jt_not (ha : JT X ca W a fa) : JT X ca W (.UnaryOp .Not a pos) (notE fa) := imp_t (pt_not ha) fun σ H Q h => tt_not h
/-- an expression that gives a bool, as a test -/
theorem jt_val (h : JE X ca W a fa) (he : ∀ whole, isTrue a X.env whole = (do let v ← whole; standAt a.pos; holding [v] (truthy v)) := by intro _; rfl) : JT X ca W a fa :=
  imp_t (pt_val h he) fun σ H Q h => tt_te h
/-! ### built-ins -/
theorem je_b1 {x : Str} {p : Pos} {id : String} {r : List V → Hp → VK → Prop} {k : EV → Store → RE} (c : CallR X (.builtin id) r) (d : UnD X.K ca W (fun v H Q => r [v] H Q) k) (hg : Gl X x) (hm : X.mg x = none) (hv : bootBuiltins x = some (.builtin id)) (h : JE X ca W a fa)
    (hn : x ≠ "__name__" := by decide) (hdb : (x == ("__debug__" : Str)) = false := by decide) (he : starEach [a] X.env = (false, eval a X.env) :: starEach [] X.env := by rfl) : JE X ca W (.Call (.Name x p) [a] [] pos) (RE1 k fa) := imp_e (pe_callB c hg hm hv (pa_cons h pa_nil he) hn hdb he) fun σ H Q h => te_un d h
theorem je_t1 {x : Str} {p : Pos} {id : String} {r : List V → Hp → VK → Prop} {k : EV → Store → RE} (c : CallR X (.type id) r) (d : UnD X.K ca W (fun v H Q => r [v] H Q) k) (hg : Gl X x) (hm : X.mg x = none) (hv : bootBuiltins x = some (.type id)) (h : JE X ca W a fa)
    (hn : x ≠ "__name__" := by decide) (hdb : (x == ("__debug__" : Str)) = false := by decide) (he : starEach [a] X.env = (false, eval a X.env) :: starEach [] X.env := by rfl) : JE X ca W (.Call (.Name x p) [a] [] pos) (RE1 k fa) := imp_e (pe_callTy c hg hm hv (pa_cons h pa_nil he) hn hdb he) fun σ H Q h => te_un d h
theorem je_b2 {x : Str} {p : Pos} {id : String} {r : List V → Hp → VK → Prop} {k : EV → EV → Store → RE} (c : CallR X (.builtin id) r) (d : OpD X.K ca W (fun v u H Q => r [v, u] H Q) k) (hg : Gl X x) (hm : X.mg x = none) (hv : bootBuiltins x = some (.builtin id)) (h : JE X ca W a fa) (h2 : JE X ca W b fb)
    (hn : x ≠ "__name__" := by decide) (hdb : (x == ("__debug__" : Str)) = false := by decide) (he : starEach [a, b] X.env = (false, eval a X.env) :: starEach [b] X.env := by rfl) (he2 : starEach [b] X.env = (false, eval b X.env) :: starEach [] X.env := by rfl) : JE X ca W (.Call (.Name x p) [a, b] [] pos) (RE2 k fa fb) := imp_e (pe_callB c hg hm hv (pa_cons h (pa_cons h2 pa_nil he2) he) hn hdb he (by rw [he2]; rfl)) fun σ H Q h => te_op d h
end
def lenG : PyData → Option EV
  | .list xs => some (iE xs.length)
  | .tuple xs => some (iE xs.length)
  | .str z => if z.length ≤ LIM then some (iE z.length) else none
  | _ => none
def kLen : EV → Store → RE := fun x S => match x with
  | .scr ns => .ok (iE ns.length) S
  | x => vUn lenG x S
def intG : PyData → Option EV
  | .int i => some (iE i)
  | .bool b => some (iE (if b then 1 else 0))
  | _ => none
def tupG : PyData → Option EV
  | .list xs => some (.d (.tuple xs))
  | .tuple xs => some (.d (.tuple xs))
  | _ => none
def listG : PyData → Option EV
  | .list xs => some (.own xs)
  | .tuple xs => some (.own xs)
  | .str z => if z.length ≤ LIM then some (.own (z.cps.toList.map fun c => .str ⟨#[c]⟩)) else none
  | _ => none
def allBools : List PyData → Option (List Bool)
  | [] => some []
  | .bool b :: xs => (allBools xs).map (b :: ·)
  | _ :: _ => none
def allG : PyData → Option EV
  | .list xs => (allBools xs).map fun bs => bE (bs.all id)
  | _ => none
def anyG : PyData → Option EV
  | .list xs => (allBools xs).map fun bs => bE (bs.any id)
  | _ => none
def minG : PyData → PyData → Option EV
  | .int i, .int j => some (iE (if j < i then j else i))
  | _, _ => none
def maxG : PyData → PyData → Option EV
  | .int i, .int j => some (iE (if j > i then j else i))
  | _, _ => none
def tyD : PyData → String
  | .none => "NoneType"
  | .bool _ => "bool"
  | .int _ => "int"
  | .str _ => "str"
  | .list _ => "list"
  | .tuple _ => "tuple"
  | .dict _ => "dict"
def isiG (T : String) (x : PyData) : Option EV := some (bE (tyD x == T || (tyD x == "bool" && T == "int")))
section
variable {K : PySem.W.Frag} {ca : Str → Addr} {W : WX}
theorem und_len : UnD K ca W (fun v H Q => ∃ x n, [v] = [x] ∧ LenV K x H n ∧ Q (.int n) H) kLen := by
  intro H0 env σ F H ρ F' H' ρ' S' v1 x Q n r p
  have main : PostE K ca W H0 env σ F H ρ Q (vUn lenG x S') → ∃ x n, [v1] = [x] ∧ LenV K x H' n ∧ Q (.int n) H' := fun p => by
    refine (UnV.d (r := fun v H Q => ∃ x n, [v] = [x] ∧ LenV K x H n ∧ Q (.int n) H) (fun H0 env σ F H ρ F' H' ρ' S' v1 a ev Q n r e p => ?_)) H0 env σ F H ρ F' H' ρ' S' v1 x Q n r p
    have hL := lim_eq
    unfold lenG at e
    split at e
    · cases e
      obtain ⟨a1, vs1, e1, h1, d1⟩ := r
      subst e1
      rw [← d1.length] at p
      exact ⟨_, _, rfl, .inl ⟨vs1, SqL.of h1, rfl⟩, fin_d n p (.int _)⟩
    · cases e
      cases r with
      | tup h1 d1 =>
        rw [← d1.length] at p
        exact ⟨_, _, rfl, .inr ⟨_, same_t n.sim.fz h1, rfl⟩, fin_d n p (.int _)⟩
    · cases r
      split at e
      · cases e
        exact ⟨_, _, rfl, ⟨by omega, rfl⟩, fin_d n p (.int _)⟩
      · cases e
    · cases e
  unfold kLen at p
  split at p
  · obtain ⟨a, e1, hs⟩ := r
    subst e1
    rename_i ns
    refine ⟨_, _, rfl, .inl ⟨_, same_l n.sim.fz hs, rfl⟩, ?_⟩
    rw [List.length_map]
    exact fin_d n p (.int _)
  · exact main p
theorem unv_int : UnV K ca W (fun v H Q => (∃ i, [v] = [.int i] ∧ Q (.int i) H) ∨ ∃ k, [v] = [.bl k] ∧ Q (.int (if k then 1 else 0)) H) intG := by
  intro H0 env σ F H ρ F' H' ρ' S' v1 a ev Q n r e p
  unfold intG at e
  split at e
  · cases e; cases r; exact .inl ⟨_, rfl, fin_d n p (.int _)⟩
  · cases e; cases r; exact .inr ⟨_, rfl, fin_d n p (.int _)⟩
  · cases e
theorem unv_tup : UnV K ca W (fun v H Q => ∃ p ys, [v] = [.ref p] ∧ ((SqL K H p ys ∧ ∀ l, H l = none → Q (.ref l) (upd H l (.tup ys))) ∨ (SqT K H p ys ∧ Q (.ref p) H))) tupG := by
  intro H0 env σ F H ρ F' H' ρ' S' v1 a ev Q n r e p
  unfold tupG at e
  split at e
  · cases e
    obtain ⟨a1, vs1, e1, h1, d1⟩ := r
    subst e1
    exact ⟨a1, vs1, rfl, .inl ⟨SqL.of h1, fun pt hp => fin_t n p d1 hp⟩⟩
  · cases e
    cases r with
    | tup h1 d1 => exact ⟨_, _, rfl, .inr ⟨same_t n.sim.fz h1, fin_d n p (.tup h1 d1)⟩⟩
  · cases e
def signsV (z : Str) : List V := z.cps.toList.map fun c => V.str ⟨#[c]⟩
theorem signs_rep {F : Hp} : ∀ l : List Nat, DrAll K F (l.map fun c => V.str ⟨#[c]⟩) (l.map fun c => PyData.str ⟨#[c]⟩)
  | [] => .nil
  | c :: l => .cons (.str _) (signs_rep l)
def rListStr : List V → Hp → VK → Prop := fun xs H Q => ∃ z, xs = [.str z] ∧ z.length ≤ sizeLine ∧ ∀ l, H l = none → Q (.ref l) (upd H l (.lst (signsV z)))
theorem call_list_strL {X : Cx} (hc : X.calm = true) : CallR X (.type "list") rListStr := by
  intro pins s σ H xs us Q I r h
  obtain ⟨z, rfl, hz, q⟩ := h
  obtain ⟨u, rfl, t, rfl⟩ := vals1 r
  refine call_list_str (I.ok.hd hc) z t (fun h' tk acc' c' hk hl hi => ?_) hz
  have hn := I.hok.fresh (Nat.le_refl s.heap.objs.size)
  obtain ⟨hsz, hit⟩ := hi
  refine ⟨.ref s.heap.objs.size, _, I.laid (t' := tk) (o := .lst (signsV z)) hk (Nat.le_refl _) ⟨?_, acc'.toList, c', ?_, by simpa using hl⟩, rfl, q _ hn⟩
  · unfold signsV
    rw [List.length_map, Array.length_toList]
    exact hz
  · refine vals_of_at ?_ fun j x u e1 e2 => ?_
    · unfold signsV
      rw [List.length_map, Array.length_toList, Array.length_toList, hsz]
    · unfold signsV at e1
      rw [List.getElem?_map] at e1
      cases q1 : z.cps.toList[j]? with
      | none => rw [q1] at e1; cases e1
      | some c =>
        rw [q1] at e1
        cases e1
        obtain ⟨c', t', e3, e4⟩ := hit j u (by simpa using e2)
        have e5 : z.cps[j]? = some c := by simpa using q1
        rw [e5] at e3
        cases e3
        exact ⟨t', e4⟩
def rList1 (K : PySem.W.Frag) : List V → Hp → VK → Prop := fun xs H Q => (∃ p ys, xs = [.ref p] ∧ (SqL K H p ys ∨ SqT K H p ys) ∧ ∀ l, H l = none → Q (.ref l) (upd H l (.lst ys))) ∨ rListStr xs H Q
theorem call_list1 {X : Cx} (hc : X.calm = true) : CallR X (.type "list") (rList1 X.K) := call_list_of.or (call_list_strL hc)
theorem unv_list : UnV K ca W (fun v H Q => rList1 K [v] H Q) listG := by
  intro H0 env σ F H ρ F' H' ρ' S' v1 a ev Q n r e p
  have hL := lim_eq
  unfold listG at e
  split at e
  · cases e
    obtain ⟨a1, vs1, e1, h1, d1⟩ := r
    subst e1
    exact .inl ⟨a1, vs1, rfl, .inl (SqL.of h1), fun pt hp => fin_l n p d1 hp⟩
  · cases e
    cases r with
    | tup h1 d1 => exact .inl ⟨_, _, rfl, .inr (same_t n.sim.fz h1), fun pt hp => fin_l n p d1 hp⟩
  · cases r
    split at e
    · cases e
      exact .inr ⟨_, rfl, by omega, fun pt hp => fin_l n p (signs_rep _) hp⟩
    · cases e
  · cases e
theorem bools_rep {F : Hp} : ∀ {vs : List V} {xs : List PyData} {bs : List Bool}, DrAll K F vs xs → allBools xs = some bs → vs = bs.map V.bl
  | _, _, bs, .nil, e => by cases e; rfl
  | v :: vs, x :: xs, bs, .cons h r, e => by
    cases x with
    | bool b =>
      obtain ⟨bs', e1, e2⟩ := Option.map_eq_some_iff.mp e
      subst e2
      cases h
      rw [bools_rep r e1]
      rfl
    | _ => cases e
theorem unv_all : UnV K ca W (fun v H Q => rAll K [v] H Q) allG := by
  intro H0 env σ F H ρ F' H' ρ' S' v1 a ev Q n r e p
  unfold allG at e
  split at e
  · obtain ⟨bs, e1, e2⟩ := Option.map_eq_some_iff.mp e
    subst e2
    obtain ⟨a1, vs1, e3, h1, d1⟩ := r
    subst e3
    rw [bools_rep d1 e1] at h1
    exact ⟨a1, bs, rfl, SqL.of h1, fin_d n p (.bl _)⟩
  · cases e
theorem unv_any : UnV K ca W (fun v H Q => rAny K [v] H Q) anyG := by
  intro H0 env σ F H ρ F' H' ρ' S' v1 a ev Q n r e p
  unfold anyG at e
  split at e
  · obtain ⟨bs, e1, e2⟩ := Option.map_eq_some_iff.mp e
    subst e2
    obtain ⟨a1, vs1, e3, h1, d1⟩ := r
    subst e3
    rw [bools_rep d1 e1] at h1
    exact ⟨a1, bs, rfl, SqL.of h1, fin_d n p (.bl _)⟩
  · cases e
theorem opv_min : OpV K ca W (fun v u H Q => ∃ i j, [v, u] = [.int i, .int j] ∧ Q (.int (if j < i then j else i)) H) minG := by
  intro H0 env σ F H ρ F' H' ρ' S' v1 v2 a b ev Q n r1 r2 e p
  unfold minG at e
  split at e
  · cases e; cases r1; cases r2; exact ⟨_, _, rfl, fin_d n p (.int _)⟩
  · cases e
theorem opv_max : OpV K ca W (fun v u H Q => ∃ i j, [v, u] = [.int i, .int j] ∧ Q (.int (if j > i then j else i)) H) maxG := by
  intro H0 env σ F H ρ F' H' ρ' S' v1 v2 a b ev Q n r1 r2 e p
  unfold maxG at e
  split at e
  · cases e; cases r1; cases r2; exact ⟨_, _, rfl, fin_d n p (.int _)⟩
  · cases e
theorem ty_rep {F H : Hp} (f : Same F H) {v : V} {x : PyData} (r : Vw K F H v x) : TyX K H v (.type (tyD x)) := by
  cases x with
  | none => cases r; exact .base .non
  | bool b => cases r; exact .base (.bl _)
  | int b => cases r; exact .base (.int _)
  | str b => cases r; exact .base (.str _)
  | list xs =>
    obtain ⟨a1, vs1, e1, h1, d1⟩ := r
    subst e1
    exact .base (.lst h1)
  | dict xs =>
    obtain ⟨a1, vs1, e1, h1, d1⟩ := r
    subst e1
    exact .base (.dK h1)
  | tuple xs =>
    cases r with
    | tup h1 d1 =>
      rcases h1 with (h1 | ⟨o, h1⟩) | ⟨o, its, n, h1, h2, _⟩
      · exact .base (.tup (f _ _ h1))
      · exact .fTuple (f _ _ h1)
      · exact .kTuple h1 h2
theorem unv_isi {T : String} (hT : T = "str" ∨ T = "int" ∨ T = "bool" ∨ T = "tuple" ∨ T = "list") : UnV K ca W (fun v H Q => rIsi K [v, .ty T] H Q) (isiG T) := by
  intro H0 env σ F H ρ F' H' ρ' S' v1 a ev Q n r e p
  unfold isiG at e
  cases e
  have hk : ∀ b, kitB (tyD a) T = some b → rIsi K [v1, .ty T] H' Q ∨ b ≠ (tyD a == T || (tyD a == "bool" && T == "int")) := fun b hb => by
    by_cases e : b = (tyD a == T || (tyD a == "bool" && T == "int"))
    · exact .inl ⟨v1, .ty T, _, .type T, _, rfl, .ty T, ty_rep n.sim.fz r, kit_ty hb, by rw [e]; exact fin_d n p (.bl _)⟩
    · exact .inr e
  have key : kitB (tyD a) T = some (tyD a == T || (tyD a == "bool" && T == "int")) := by
    have all : ∀ t, t ∈ ["NoneType", "bool", "int", "str", "list", "tuple", "dict"] → ∀ T, T ∈ ["str", "int", "bool", "tuple", "list"] → kitB t T = some (t == T || (t == "bool" && T == "int")) := by decide +kernel
    refine all _ ?_ _ ?_
    · cases a <;> simp [tyD]
    · simpa using hT
  rcases hk _ key with h | h
  · exact h
  · exact absurd rfl h
end
abbrev lenE : DE → DE := RE1 kLen
abbrev intE : DE → DE := RE1 (vUn intG)
abbrev tupOfE : DE → DE := RE1 (vUn tupG)
abbrev listOfE : DE → DE := RE1 (vUn listG)
abbrev allE : DE → DE := RE1 (vUn allG)
abbrev anyE : DE → DE := RE1 (vUn anyG)
abbrev isiE (T : String) : DE → DE := RE1 (vUn (isiG T))
abbrev minE : DE → DE → DE := RE2 (vOp minG)
abbrev maxE : DE → DE → DE := RE2 (vOp maxG)
section
variable {X : Cx} {ca : Str → Addr} {W : WX} {a b c : Expr} {es rest : List Expr} {fa fb fc : DE} {p p2 pos : Pos}
theorem je_len (hg : Gl X "len") (hm : X.mg "len" = none) (h : JE X ca W a fa) (he : starEach [a] X.env = (false, eval a X.env) :: starEach [] X.env := by rfl) : JE X ca W (.Call (.Name "len" p) [a] [] pos) (lenE fa) := je_b1 call_len und_len hg hm PySem.boot_len h (he := he)
theorem je_intOf (hg : Gl X "int") (hm : X.mg "int" = none) (h : JE X ca W a fa) (he : starEach [a] X.env = (false, eval a X.env) :: starEach [] X.env := by rfl) : JE X ca W (.Call (.Name "int" p) [a] [] pos) (intE fa) := je_t1 call_int1 unv_int.d hg hm PyProof.Rows.boot_int h (he := he)
theorem je_tupOf (hg : Gl X "tuple") (hm : X.mg "tuple" = none) (h : JE X ca W a fa) (he : starEach [a] X.env = (false, eval a X.env) :: starEach [] X.env := by rfl) : JE X ca W (.Call (.Name "tuple" p) [a] [] pos) (tupOfE fa) := je_t1 call_tuple_of unv_tup.d hg hm PyProof.Rows.boot_tuple h (he := he)
theorem je_listOf (hc : X.calm = true) (hg : Gl X "list") (hm : X.mg "list" = none) (h : JE X ca W a fa) (he : starEach [a] X.env = (false, eval a X.env) :: starEach [] X.env := by rfl) : JE X ca W (.Call (.Name "list" p) [a] [] pos) (listOfE fa) := je_t1 (call_list1 hc) unv_list.d hg hm PyProof.Rows.boot_list h (he := he)
theorem je_all (hc : X.calm = true) (hg : Gl X "all") (hm : X.mg "all" = none) (h : JE X ca W a fa) (he : starEach [a] X.env = (false, eval a X.env) :: starEach [] X.env := by rfl) : JE X ca W (.Call (.Name "all" p) [a] [] pos) (allE fa) := je_b1 (cr_all hc) unv_all.d hg hm PyProof.Rows.boot_all h (he := he)
theorem je_any (hc : X.calm = true) (hg : Gl X "any") (hm : X.mg "any" = none) (h : JE X ca W a fa) (he : starEach [a] X.env = (false, eval a X.env) :: starEach [] X.env := by rfl) : JE X ca W (.Call (.Name "any" p) [a] [] pos) (anyE fa) := je_b1 (cr_any hc) unv_any.d hg hm PyProof.Rows.boot_any h (he := he)
theorem je_min (hc : X.calm = true) (hg : Gl X "min") (hm : X.mg "min" = none) (h : JE X ca W a fa) (h2 : JE X ca W b fb) (he : starEach [a, b] X.env = (false, eval a X.env) :: starEach [b] X.env := by rfl) (he2 : starEach [b] X.env = (false, eval b X.env) :: starEach [] X.env := by rfl) : JE X ca W (.Call (.Name "min" p) [a, b] [] pos) (minE fa fb) := je_b2 (call_min2 hc) opv_min.d hg hm PyProof.Rows.boot_min h h2 (he := he) (he2 := he2)
theorem je_max (hc : X.calm = true) (hg : Gl X "max") (hm : X.mg "max" = none) (h : JE X ca W a fa) (h2 : JE X ca W b fb) (he : starEach [a, b] X.env = (false, eval a X.env) :: starEach [b] X.env := by rfl) (he2 : starEach [b] X.env = (false, eval b X.env) :: starEach [] X.env := by rfl) : JE X ca W (.Call (.Name "max" p) [a, b] [] pos) (maxE fa fb) := je_b2 (call_max2 hc) opv_max.d hg hm PyProof.Rows.boot_max h h2 (he := he) (he2 := he2)
theorem je_isi {T : String} {x : Str} (hT : T = "str" ∨ T = "int" ∨ T = "bool" ∨ T = "tuple" ∨ T = "list") (hg : Gl X "isinstance") (hm : X.mg "isinstance" = none) (hgT : Gl X x) (hmT : X.mg x = none) (hvT : bootBuiltins x = some (.type T)) (h : JE X ca W a fa) (hn : x ≠ "__name__" := by decide) (hdb : (x == ("__debug__" : Str)) = false := by decide) (he : starEach [a, .Name x p2] X.env = (false, eval a X.env) :: starEach [.Name x p2] X.env := by rfl) (he2 : starEach [.Name x p2] X.env = (false, eval (.Name x p2) X.env) :: starEach [] X.env := by rfl) :
    JE X ca W (.Call (.Name "isinstance" p) [a, .Name x p2] [] pos) (isiE T fa) :=
  imp_e (pe_callB call_isi hg hm PyProof.Rows.boot_isinstance (pa_cons h (pa_cons (pe_bltn (v := .ty T) hgT hmT hvT rfl hn hdb) pa_nil he2) he) (he := he) (hpl := by rw [he2]; rfl)) fun σ H Q h => te_un (unv_isi hT).d h
end
end DL

set_option Elab.async false
set_option linter.all false
set_option maxRecDepth 100000
set_option maxHeartbeats 4000000
/-! DL7: statements. -/
namespace DL
open PySem PySem.Spec PyProof.Rows L2

/-- a def's entry -/
structure Ses where
  H0 : Hp
  F0 : Hp
  r0 : List Addr
section
variable (K : PySem.W.Frag) (ca : Str → Addr) (W : WX) (z : Ses)
structure SimS (F : Hp) (ρ : List Addr) (S : Store) (env : Env) (σ : L2.St) (H : Hp) : Prop where
  sim : Sim K ca z.H0 F ρ S env σ H
  stp : Stp z.F0 z.H0 z.r0 F H ρ
def PostS (F : Hp) (D : Ends) : RS → Prop
  | .next env' S' => ∀ σ' F' H' ρ', Same F F' → SimS K ca z F' ρ' S' env' σ' H' → D.nx σ' H'
  | .brk env' S' => ∀ σ' F' H' ρ', Same F F' → SimS K ca z F' ρ' S' env' σ' H' → D.bk σ' H'
  | .cont env' S' => ∀ σ' F' H' ρ', Same F F' → SimS K ca z F' ρ' S' env' σ' H' → D.ct σ' H'
  | .ret r S' => ∀ v F' H' ρ', Stp z.F0 z.H0 z.r0 F' H' ρ' → Sim K ca z.H0 F' ρ' S' [] [] H' → RepV K F' ρ' z.H0 H' v r → D.rt v H'
  | .raise ex env' S' => ∀ cls d σ' F' H' ρ', Same F F' → SimS K ca z F' ρ' S' env' σ' H' → ExcRep K ca F' H' cls d ex → W cls d σ' H'
  | .stuck => False
def dTS (g : DS) : TS := fun D σ H => ∃ F ρ S env, SimS K ca z F ρ S env σ H ∧ PostS K ca W z F D (g env S)
end
abbrev JS (X : Cx) (ca : Str → Addr) (W : WX) (st : Stmt) (g : DS) : Prop := ∀ z, PS X st (dTS X.K ca W z g)
abbrev JSs (X : Cx) (ca : Str → Addr) (W : WX) (sts : List Stmt) (g : DS) : Prop := ∀ z, PSs X sts (dTS X.K ca W z g)
theorem imp_s {X : Cx} {st : Stmt} {t t' : TS} (h : PS X st t) (i : ∀ D σ H, t' D σ H → t D σ H) : PS X st t' := ⟨fun pins s σ H D I q => h.run pins s σ H D I (i D σ H q)⟩
theorem imp_ss {X : Cx} {st : List Stmt} {t t' : TS} (h : PSs X st t) (i : ∀ D σ H, t' D σ H → t D σ H) : PSs X st t' := ⟨fun pins s σ H D I q => h.run pins s σ H D I (i D σ H q)⟩

section
variable {K : PySem.W.Frag} {ca : Str → Addr} {W : WX} {z : Ses} {F H F' H' F1 H1 F2 H2 B : Hp} {ρ ρ' ρ1 ρ2 : List Addr} {S S' S1 S2 : Store} {env env' : Env} {σ σ' : L2.St} {v : V} {ev : EV} {D : Ends}
theorem PostS.mono {r : RS} (e : Same F F1) (p : PostS K ca W z F D r) : PostS K ca W z F1 D r := by
  cases r with
  | next env' S' => exact fun σ' F' H' ρ' f s => p σ' F' H' ρ' (e.trans f) s
  | brk env' S' => exact fun σ' F' H' ρ' f s => p σ' F' H' ρ' (e.trans f) s
  | cont env' S' => exact fun σ' F' H' ρ' f s => p σ' F' H' ρ' (e.trans f) s
  | ret r S' => exact p
  | raise ex env' S' => exact fun cls d σ' F' H' ρ' f s r => p cls d σ' F' H' ρ' (e.trans f) s r
  | stuck => exact p
theorem SimS.on (s : SimS K ca z F ρ S env σ H) (n : Now K ca z.H0 env σ F H ρ F1 H1 ρ1 S1) : SimS K ca z F1 ρ1 S1 env σ H1 := ⟨n.sim, s.stp.trans n.stp⟩
/-- an expression ahead of the rest of a statement -/
theorem ts1 {f : DE} {k : EV → Store → RS} {R : VK} (s : SimS K ca z F ρ S env σ H) (p : PostS K ca W z F D ((f env S).bindS env k))
    (hk : ∀ x S1 v F1 H1 ρ1, Now K ca z.H0 env σ F H ρ F1 H1 ρ1 S1 → SimS K ca z F1 ρ1 S1 env σ H1 → RepE K F1 ρ1 H env σ H1 v x → PostS K ca W z F1 D (k x S1) → R v H1) : dTE K ca W f σ H R := by
  refine ⟨z.H0, F, ρ, S, env, s.sim, ?_⟩
  cases q : f env S with
  | ok x S1 =>
    simp only [q, RE.bindS] at p
    exact fun v F1 H1 ρ1 n r => hk x S1 v F1 H1 ρ1 n (s.on n) r (p.mono n.stp.fz)
  | raise e S1 =>
    simp only [q, RE.bindS] at p
    exact fun cls d F1 H1 ρ1 n r => p cls d σ F1 H1 ρ1 n.stp.fz (s.on n) r
  | stuck =>
    simp only [q, RE.bindS] at p
    exact p
theorem ts1T {f : DE} {k : Bool → Store → RS} {R : Bool → Hp → Prop} (s : SimS K ca z F ρ S env σ H) (p : PostS K ca W z F D ((f env S).bindBS env k))
    (hk : ∀ b S1 F1 H1 ρ1, SimS K ca z F1 ρ1 S1 env σ H1 → PostS K ca W z F1 D (k b S1) → R b H1) : dTT K ca W f σ H R := by
  refine ⟨z.H0, F, ρ, S, env, s.sim, ?_⟩
  revert p
  cases q : f env S with
  | ok x S1 =>
    cases x with
    | d x =>
      cases x with
      | bool b => exact fun p F1 H1 ρ1 n => hk b S1 F1 H1 ρ1 (s.on n) (p.mono n.stp.fz)
      | _ => exact fun p => p
    | _ => exact fun p => p
  | raise e S1 => exact fun p cls d F1 H1 ρ1 n r => p cls d σ F1 H1 ρ1 n.stp.fz (s.on n) r
  | stuck => exact fun p => p
/-- the slot i holds a new value -/
theorem get_set {α : Type} {l : List α} {i j : Nat} {a b : α} (h : (l.set i a)[j]? = some b) : (j = i ∧ i < l.length ∧ a = b) ∨ (j ≠ i ∧ l[j]? = some b) := by
  by_cases e : j = i
  · subst e
    by_cases hl : j < l.length
    · rw [List.getElem?_set_self hl] at h
      exact .inl ⟨rfl, hl, Option.some.inj h⟩
    · rw [List.getElem?_eq_none_iff.mpr (by rw [List.length_set]; omega)] at h
      cases h
  · rw [List.getElem?_set_ne (Ne.symm e)] at h
    exact .inr ⟨e, h⟩
theorem Sim.setSlot {H0 : Hp} (s : Sim K ca H0 F ρ S env σ H) (i : Nat) (r : RepV K F ρ H0 H v ev) (ho : ev.isOwn = true → ∀ (j : Nat) (ej : EV), j ≠ i → env[j]? = some (some ej) → ej.isOwn = true → σ[j]? ≠ some (some v)) :
    Sim K ca H0 F ρ S (env.set i (some ev)) (σ.set i (some v)) H := by
  refine ⟨s.fz, s.len, s.nd, s.rfz, s.cell, by rw [List.length_set, List.length_set]; exact s.lenE, fun j ej e => ?_, fun j k ei ek a e1 e2 o1 o2 e3 e4 => ?_⟩
  · rcases get_set e with ⟨rfl, hl, e⟩ | ⟨hj, e⟩
    · cases e
      exact ⟨v, by rw [List.getElem?_set_self (by rw [← s.lenE]; exact hl)], r⟩
    · obtain ⟨w, e1, e2⟩ := s.slot j ej e
      exact ⟨w, by rw [List.getElem?_set_ne (Ne.symm hj)]; exact e1, e2⟩
  · rcases get_set e1 with ⟨rfl, hl, q1⟩ | ⟨hj, q1⟩
    · rcases get_set e2 with ⟨rfl, hl2, q2⟩ | ⟨hk, q2⟩
      · rfl
      · rcases get_set e3 with ⟨_, _, q3⟩ | ⟨hn, _⟩
        · rcases get_set e4 with ⟨hn, _, _⟩ | ⟨_, q4⟩
          · exact absurd hn hk
          · have z1 : ev = ei := Option.some.inj q1
            have z3 : v = .ref a := Option.some.inj q3
            subst z1 z3
            exact absurd q4 (ho o1 k ek hk q2 o2)
        · exact absurd rfl hn
    · rcases get_set e2 with ⟨rfl, hl2, q2⟩ | ⟨hk, q2⟩
      · rcases get_set e4 with ⟨_, _, q4⟩ | ⟨hn, _⟩
        · rcases get_set e3 with ⟨hn, _, _⟩ | ⟨_, q3⟩
          · exact absurd hn hj
          · have z2 : ev = ek := Option.some.inj q2
            have z4 : v = .ref a := Option.some.inj q4
            subst z2 z4
            exact absurd q3 (ho o2 j ei hj q1 o1)
        · exact absurd rfl hn
      · refine s.ownD j k ei ek a q1 q2 o1 o2 ?_ ?_
        · rcases get_set e3 with ⟨hn, _, _⟩ | ⟨_, q3⟩
          · exact absurd hn hj
          · exact q3
        · rcases get_set e4 with ⟨hn, _, _⟩ | ⟨_, q4⟩
          · exact absurd hn hk
          · exact q4
theorem SimS.setSlot (s : SimS K ca z F ρ S env σ H) (i : Nat) (r : RepV K F ρ z.H0 H v ev) (ho : ev.isOwn = true → ∀ (j : Nat) (ej : EV), j ≠ i → env[j]? = some (some ej) → ej.isOwn = true → σ[j]? ≠ some (some v)) :
    SimS K ca z F ρ S (env.set i (some ev)) (σ.set i (some v)) H := ⟨s.sim.setSlot i r ho, s.stp⟩
/-- a fresh own value is none of the slots' -/
theorem fresh_slot (s0 : Sim K ca z.H0 F ρ S env σ H) (r : RepV K F1 ρ1 H H1 v ev) (ho : ev.isOwn = true) : ∀ (j : Nat) (ej : EV), env[j]? = some (some ej) → ej.isOwn = true → σ[j]? ≠ some (some v) := fun j ej e1 o1 e2 => by
  cases ev with
  | own xs =>
    obtain ⟨a, vs, r1, r2, _⟩ := r
    subst r1
    exact (s0.own_at e1 o1 e2).2.2.2 r2
  | ownD xs =>
    obtain ⟨a, vs, r1, r2, _⟩ := r
    subst r1
    exact (s0.own_at e1 o1 e2).2.2.2 r2
  | _ => cases ho
theorem fixed_own {ev' : EV} (e : ev.fixed = some ev') : ev'.isOwn = false := by
  cases ev <;> cases e <;> rfl
theorem SimS.fixed (s : SimS K ca z F ρ S env σ H) (n : Now K ca z.H0 env σ F H ρ F1 H1 ρ1 S1) (r : RepE K F1 ρ1 H env σ H1 v ev) {ev' : EV} (e : ev.fixed = some ev') :
    ∃ F2, SimS K ca z F2 ρ1 S1 env σ H1 ∧ Same F1 F2 ∧ RepV K F2 ρ1 z.H0 H1 v ev' := by
  obtain ⟨F2, n2, sm, r2⟩ := n.fixed s.sim.old r e
  exact ⟨F2, s.on n2, sm, r2.base s.stp.mono⟩
end

/-! ### small statements -/
def seqS (g1 g2 : DS) : DS := fun env S => (g1 env S).bind g2
def nopS : DS := fun env S => .next env S
def EV.moved : EV → EV
  | .bor xs => .own xs
  | .borD ks => .ownD ks
  | x => x
def retS (f : DE) : DS := fun env S => (f env S).bindS env fun x S1 => .ret x.moved S1
def retN : DS := fun env S => .ret (.d .none) S
def exprS (f : DE) : DS := fun env S => (f env S).bindS env fun _ S1 => .next env S1
def ifS (t : DE) (a b : DS) : DS := fun env S => (t env S).bindBS env fun k S1 => if k = true then a env S1 else b env S1
/-- name = e; what is own is fixed -/
def asgF (i : Nat) (f : DE) : DS := fun env S => (f env S).bindS env fun x S1 => match x.fixed with
  | some ev => .next (env.set i (some ev)) S1
  | none => .stuck
/-- name = e; what is own stays so -/
def EV.kept : EV → Option EV
  | .bor _ => none
  | .borD _ => none
  | x => some x
def asgO (i : Nat) (f : DE) : DS := fun env S => (f env S).bindS env fun x S1 => match x.kept with
  | some ev => .next (env.set i (some ev)) S1
  | none => .stuck
/-- the own list of a slot is fixed from here on (nothing happens) -/
def Env.frz (env : Env) (i : Nat) : Env := match env[i]? with
  | some (some (.own xs)) => env.set i (some (.d (.list xs)))
  | some (some (.ownD ks)) => env.set i (some (.d (.dict ks)))
  | _ => env
def frzS (i : Nat) (g : DS) : DS := fun env S => g (env.frz i) S
section
variable {X : Cx} {ca : Str → Addr} {W : WX} {st : Stmt} {sts : List Stmt} {g1 g2 : DS} {e : Expr} {f ft : DE} {pos : Pos}
theorem js_nil : JSs X ca W [] nopS := fun z => imp_ss pss_nil fun D σ H ⟨F, ρ, S, env, s, p⟩ => p σ F H ρ (Same.refl _) s
theorem js_cons (h1 : JS X ca W st g1) (h2 : JSs X ca W sts g2) : JSs X ca W (st :: sts) (seqS g1 g2) := fun z => imp_ss (pss_cons (h1 z) (h2 z)) fun D σ H ⟨F, ρ, S, env, s, p⟩ => by
  refine ⟨F, ρ, S, env, s, ?_⟩
  unfold seqS at p
  cases q : g1 env S with
  | next env' S' =>
    simp only [q, RS.bind] at p
    exact fun σ' F' H' ρ' f s' => ⟨F', ρ', S', env', s', p.mono f⟩
  | brk env' S' => simp only [q, RS.bind] at p; exact p
  | cont env' S' => simp only [q, RS.bind] at p; exact p
  | ret r S' => simp only [q, RS.bind] at p; exact p
  | raise ex env' S' => simp only [q, RS.bind] at p; exact p
  | stuck => simp only [q, RS.bind] at p; exact p
theorem js_one (h1 : JS X ca W st g1) : JSs X ca W [st] g1 := fun z => pss_one (h1 z)
theorem js_pass : JS X ca W (.Pass pos) nopS := fun z => imp_s ps_pass fun D σ H ⟨F, ρ, S, env, s, p⟩ => p σ F H ρ (Same.refl _) s
theorem js_break : JS X ca W (.Break pos) (fun env S => .brk env S) := fun z => imp_s ps_break fun D σ H ⟨F, ρ, S, env, s, p⟩ => p σ F H ρ (Same.refl _) s
theorem js_cont : JS X ca W (.Continue pos) (fun env S => .cont env S) := fun z => imp_s ps_continue fun D σ H ⟨F, ρ, S, env, s, p⟩ => p σ F H ρ (Same.refl _) s
theorem js_expr (h : JE X ca W e f) (hs : swapsWith e none pos.line X.env = pure false := by rfl) : JS X ca W (.Expr e pos) (exprS f) := fun z => imp_s (ps_expr h hs) fun D σ H ⟨F, ρ, S, env, s, p⟩ =>
  ts1 (D := D) s p fun x S1 v F1 H1 ρ1 n s1 r p1 => p1 σ F1 H1 ρ1 (Same.refl _) s1
theorem sim_drop {K : PySem.W.Frag} {H0 F H : Hp} {ρ : List Addr} {S : Store} {env : Env} {σ : L2.St} (s : Sim K ca H0 F ρ S env σ H) : Sim K ca H0 F ρ S [] [] H :=
  ⟨s.fz, s.len, s.nd, s.rfz, s.cell, rfl, fun i ev e => by simp at e, fun i j ei ej a e => by simp at e⟩
theorem ret_rep {K : PySem.W.Frag} {z : Ses} {F H F1 H1 : Hp} {ρ ρ1 : List Addr} {S1 : Store} {env : Env} {σ : L2.St} {v : V} {D : Ends} {x : EV} (s0 : Stp z.F0 z.H0 z.r0 F H ρ) (s : SimS K ca z F1 ρ1 S1 env σ H1) (r : RepE K F1 ρ1 H env σ H1 v x)
    (p : PostS K ca W z F1 D (.ret x.moved S1)) : D.rt v H1 := by
  have go : ∀ x, RepV K F1 ρ1 z.H0 H1 v x → PostS K ca W z F1 D (.ret x S1) → D.rt v H1 := fun x r p => p v F1 H1 ρ1 s.stp (sim_drop s.sim) r
  cases x with
  | bor xs =>
    obtain ⟨i, a, e1, e2, e3⟩ := r
    obtain ⟨w, e4, e5⟩ := s.sim.slot i _ e1
    rw [e2] at e4
    cases e4
    subst e3
    exact go _ e5 p
  | borD xs =>
    obtain ⟨i, a, e1, e2, e3⟩ := r
    obtain ⟨w, e4, e5⟩ := s.sim.slot i _ e1
    rw [e2] at e4
    cases e4
    subst e3
    exact go _ e5 p
  | d x => exact go (.d x) r p
  | own x => exact go (.own x) (RepV.base (ev := .own x) s0.mono r) p
  | ownD x => exact go (.ownD x) (RepV.base (ev := .ownD x) s0.mono r) p
  | ref x => exact go (.ref x) r p
  | scr x => exact go (.scr x) r p
  | opq x => exact go (.opq x) r p
  | fn x => exact go (.fn x) r p
theorem js_ret (h : JE X ca W e f) : JS X ca W (.Return (some e) pos) (retS f) := fun z => imp_s (ps_ret h) fun D σ H ⟨F, ρ, S, env, s, p⟩ =>
  ts1 (D := D) s p fun x S1 v F1 H1 ρ1 n s1 r p1 => ret_rep s.stp s1 r p1
theorem js_retN : JS X ca W (.Return none pos) retN := fun z => imp_s ps_retN fun D σ H ⟨F, ρ, S, env, s, p⟩ => p .non F H ρ s.stp (sim_drop s.sim) .non
theorem js_if {c : Expr} {a b : List Stmt} (hc : JT X ca W c ft) (ha : JSs X ca W a g1) (hb : JSs X ca W b g2) : JS X ca W (.If c a b pos) (ifS ft g1 g2) := fun z => imp_s (ps_if hc (ha z) (hb z)) fun D σ H ⟨F, ρ, S, env, s, p⟩ =>
  ts1T (D := D) s p fun b S1 F1 H1 ρ1 s1 p1 => by
    cases b with
    | true => exact iteT ⟨F1, ρ1, S1, env, s1, p1⟩
    | false => exact iteF ⟨F1, ρ1, S1, env, s1, p1⟩
theorem ts_asgF {K : PySem.W.Frag} {z : Ses} {i : Nat} {D : Ends} {σ : L2.St} {H : Hp} (h : dTS K ca W z (asgF i f) D σ H) : tAsg (dTE K ca W f) (gName i) D σ H := by
  obtain ⟨F, ρ, S, env, s, p⟩ := h
  refine ts1 (D := D) s p fun x S1 v F1 H1 ρ1 n s1 r p1 => ?_
  cases q : x.fixed with
  | none => simp only [q] at p1; exact p1.elim
  | some ev =>
    simp only [q] at p1
    obtain ⟨F2, s2, sm, r2⟩ := s.fixed n r q
    exact p1 _ F2 H1 ρ1 sm (s2.setSlot i r2 fun o => by rw [fixed_own q] at o; cases o)
theorem ts_asgO {K : PySem.W.Frag} {z : Ses} {i : Nat} {D : Ends} {σ : L2.St} {H : Hp} (h : dTS K ca W z (asgO i f) D σ H) : tAsg (dTE K ca W f) (gName i) D σ H := by
  obtain ⟨F, ρ, S, env, s, p⟩ := h
  refine ts1 (D := D) s p fun x S1 v F1 H1 ρ1 n s1 r p1 => ?_
  cases q : x.kept with
  | none => simp only [q] at p1; exact p1.elim
  | some ev =>
    simp only [q] at p1
    have r1 : RepV K F1 ρ1 H H1 v ev := by
      cases x <;> cases q <;> exact r
    exact p1 _ F1 H1 ρ1 (Same.refl _) (s1.setSlot i (r1.base s.stp.mono) fun o j ej _ e1 o1 => fresh_slot s.sim r1 o j ej e1 o1)
theorem js_set {i : Nat} {x : Str} {pos' : Pos} (hN : X.N.Nodup) (hi : X.N[i]? = some x) (hx : Loc X.env.scope x) (h : JE X ca W e f) (hs : swapsWith e (some (.Name x pos')) pos.line X.env = pure false := by rfl) (hf : X.fn x = true ∨ X.env.scope.names.lookup x = some .local := by first | exact .inl rfl | exact .inr rfl | assumption) :
    JS X ca W (.Assign [.Name x pos'] e pos) (asgF i f) := fun z => imp_s (ps_set hN hi hx h hs hf) fun D σ H h => ts_asgF h
theorem js_setO {i : Nat} {x : Str} {pos' : Pos} (hN : X.N.Nodup) (hi : X.N[i]? = some x) (hx : Loc X.env.scope x) (h : JE X ca W e f) (hs : swapsWith e (some (.Name x pos')) pos.line X.env = pure false := by rfl) (hf : X.fn x = true ∨ X.env.scope.names.lookup x = some .local := by first | exact .inl rfl | exact .inr rfl | assumption) :
    JS X ca W (.Assign [.Name x pos'] e pos) (asgO i f) := fun z => imp_s (ps_set hN hi hx h hs hf) fun D σ H h => ts_asgO h
theorem sim_frz {K : PySem.W.Frag} {z : Ses} {F H : Hp} {ρ : List Addr} {S : Store} {env : Env} {σ : L2.St} (s : SimS K ca z F ρ S env σ H) (i : Nat) : ∃ F', Same F F' ∧ SimS K ca z F' ρ S (env.frz i) σ H := by
  unfold Env.frz
  have go : ∀ (ev ev' : EV) (a : Addr) (o : HO), env[i]? = some (some ev) → ev.isOwn = true → ev'.isOwn = false → σ[i]? = some (some (.ref a)) → H a = some o → F a = none → a ∉ ρ → z.H0 a = none → (∀ F', Same F F' → F' a = some o → RepV K F' ρ z.H0 H (.ref a) ev') →
      ∃ F', Same F F' ∧ SimS K ca z F' ρ S (env.set i (some ev')) σ H := fun ev ev' a o e1 o1 o2 e2 e3 e4 e5 e6 hr => by
    have f := same_fix (o := o) e4
    refine ⟨upd F a o, f, ?_, s.stp.fix e6 e4⟩
    have s1 : Sim K ca z.H0 F ρ S (env.set i none) σ H := by
      refine ⟨s.sim.fz, s.sim.len, s.sim.nd, s.sim.rfz, s.sim.cell, by rw [List.length_set]; exact s.sim.lenE, fun j ej e => ?_, fun j k ej ek b q1 q2 => ?_⟩
      · rcases get_set e with ⟨_, _, e⟩ | ⟨hj, e⟩
        · cases e
        · exact s.sim.slot j ej e
      · rcases get_set q1 with ⟨_, _, q1⟩ | ⟨hj, q1⟩
        · cases q1
        · rcases get_set q2 with ⟨_, _, q2⟩ | ⟨hk, q2⟩
          · cases q2
          · exact s.sim.ownD j k ej ek b q1 q2
    have s2 := s1.fix e3 e4 e5 fun j ej q1 o3 q2 => by
      rcases get_set q1 with ⟨_, _, q1⟩ | ⟨hj, q1⟩
      · cases q1
      · exact hj (s.sim.ownD j i ej ev a q1 e1 o3 o1 q2 e2)
    have hl : i < σ.length := (List.getElem?_eq_some_iff.mp e2).1
    have s3 := s2.setSlot i (hr _ f upd_same) fun o => by rw [o2] at o; cases o
    rw [List.set_set] at s3
    have : σ.set i (some (.ref a)) = σ := by
      apply List.ext_getElem?
      intro j
      by_cases hj : j = i
      · subst hj
        rw [List.getElem?_set_self hl, e2]
      · rw [List.getElem?_set_ne (Ne.symm hj)]
    rw [this] at s3
    exact s3
  cases q : env[i]? with
  | none => exact ⟨F, Same.refl _, s⟩
  | some o =>
    cases o with
    | none => exact ⟨F, Same.refl _, s⟩
    | some ev =>
      cases ev with
      | own xs =>
        obtain ⟨w, e1, a, vs, r1, r2, r3, r4, r5, r6⟩ := s.sim.slot i _ q
        subst r1
        exact go _ _ a _ q rfl rfl e1 r3 r4 r5 r2 fun F' f e => show Dr K F' _ _ from .lst e (r6.mono f)
      | ownD xs =>
        obtain ⟨w, e1, a, vs, r1, r2, r3, r4, r5, r6⟩ := s.sim.slot i _ q
        subst r1
        exact go _ _ a _ q rfl rfl e1 r3 r4 r5 r2 fun F' f e => show Dr K F' _ _ from .dct e (r6.mono f)
      | _ => exact ⟨F, Same.refl _, s⟩
theorem js_frz (i : Nat) (h : JS X ca W st g1) : JS X ca W st (frzS i g1) := fun z => imp_s (h z) fun D σ H ⟨F, ρ, S, env, s, p⟩ => by
  obtain ⟨F', f, s'⟩ := sim_frz s i
  exact ⟨F', ρ, S, env.frz i, s', p.mono f⟩
/-- code that is never reached -/
theorem js_never : JS X ca W st (fun _ _ => .stuck) := fun z => imp_s ps_never fun D σ H ⟨F, ρ, S, env, s, p⟩ => p.elim
end
end DL

set_option Elab.async false
set_option linter.all false
set_option maxRecDepth 100000
set_option maxHeartbeats 4000000
/-! DL8: what is walked, loops. -/
namespace DL
open PySem PySem.Spec PyProof.Rows L2

/-- an iterator that yields these data, one a turn -/
structure DItems (K : PySem.W.Frag) (J : It) (F : Hp) (items : List PyData) : Prop where
  stop : ∀ F' H' i, Same F F' → Same F' H' → items.length ≤ i → J.stop i H'
  go : ∀ F' H' i, Same F F' → Same F' H' → i < items.length → J.go i H'
  yld : ∀ F' H' i x H'' d, Same F F' → Same F' H' → items[i]? = some d → J.yld i H' x H'' → (H'' = H' ∧ Dr K F' x d) ∨ ∃ T vs ds, H' T = none ∧ H'' = upd H' T (.tup vs) ∧ x = .ref T ∧ d = .tuple ds ∧ DrAll K F' vs ds
section
variable (K : PySem.W.Frag) (ca : Str → Addr) (W : WX)
def PostI (H0 : Hp) (env : Env) (σ : L2.St) (F H : Hp) (ρ : List Addr) (R : It → Hp → Prop) : RE → Prop
  | .ok (.d (.list items)) S' => ∀ F' H' ρ' J, Now K ca H0 env σ F H ρ F' H' ρ' S' → DItems K J F' items → R J H'
  | .raise ex S' => ∀ cls d F' H' ρ', Now K ca H0 env σ F H ρ F' H' ρ' S' → ExcRep K ca F' H' cls d ex → W cls d σ H'
  | _ => False
def dTI (f : DE) : TI := fun σ H R => ∃ H0 F ρ S env, Sim K ca H0 F ρ S env σ H ∧ PostI K ca W H0 env σ F H ρ R (f env S)
end
abbrev JI (X : Cx) (ca : Str → Addr) (W : WX) (tg e : Expr) (f : DE) : Prop := PI X tg e (dTI X.K ca W f)
theorem imp_i {X : Cx} {tg e : Expr} {t t' : TI} (h : PI X tg e t) (i : ∀ σ H R, t' σ H R → t σ H R) : PI X tg e t' := ⟨fun pins s σ H R I q => h.run pins s σ H R I (i σ H R q)⟩

/-! ### a list, a tuple, a text -/
def iAny (K : PySem.W.Frag) (tl : TE) : TI := fun σ H R => tl σ H fun x H1 =>
  (∃ a, x = .ref a ∧ (∃ xs, SqL K H1 a xs) ∧ R (Itl K a) H1) ∨ (∃ a, x = .ref a ∧ (∃ xs, SqT K H1 a xs) ∧ R (Itt K a) H1) ∨ ∃ z, x = .str z ∧ R (Its z) H1
theorem pi_any {X : Cx} {tg l : Expr} {tl : TE} (hl : PE X l tl) : PI X tg l (iAny X.K tl) := by
  refine ⟨fun pins s σ H R I h => ?_⟩
  refine thn (hl.run pins s σ H _ I h) fun v s1 ⟨x, H1, I1, r1, q1⟩ => ?_
  rcases q1 with ⟨a, e, ⟨xs, hq⟩, q⟩ | ⟨a, e, ⟨xs, hq⟩, q⟩ | ⟨z, e, q⟩
  · subst e
    cases r1
    obtain ⟨its, rv, p, hz⟩ := I1.list hq
    exact wpAny_pyIter_list p.isList (pi_one (tk := s1.toks) I1 _ (turn_list a _) ⟨_, Heap.get?_push_size _ rfl, rfl, rfl⟩ q)
  · subst e
    cases r1
    obtain ⟨its, rv, p, hz⟩ := I1.tuple hq
    exact wpAny_pyIter_tuple (show s1.heap.IsTuple a its.toArray from p) (pi_one (tk := s1.toks) I1 _ (turn_tuple a _) ⟨_, Heap.get?_push_size _ rfl, rfl, rfl⟩ q)
  · subst e
    obtain ⟨t, rfl⟩ := r1
    cases ha : z.cps.all (· < 128)
    · exact wpAny_pyIter_wide ha (pi_one (tk := s1.toks) I1 _ (turn_str _ z t "str_iterator" (.inr rfl)) ⟨_, Heap.get?_push_size _ rfl, rfl, rfl⟩ q)
    · exact wpAny_pyIter_ascii ha (pi_one (tk := s1.toks) I1 _ (turn_str _ z t "str_ascii_iterator" (.inl rfl)) ⟨_, Heap.get?_push_size _ rfl, rfl, rfl⟩ q)
def itemsG : PyData → Option (List PyData)
  | .list xs => some xs
  | .tuple xs => some xs
  | .str z => some (z.cps.toList.map fun c => .str ⟨#[c]⟩)
  | _ => none
def itE (f : DE) : DE := fun env S => (f env S).bind fun x S1 => match x.fixed with
  | some (.d y) => match itemsG y with
    | some xs => .ok (.d (.list xs)) S1
    | none => .stuck
  | _ => .stuck
section
variable {K : PySem.W.Frag} {ca : Str → Addr} {W : WX} {H0 F H F' H' F1 H1 F2 H2 B : Hp} {ρ ρ' ρ1 ρ2 : List Addr} {S S' S1 S2 : Store} {env : Env} {σ : L2.St} {v : V} {ev : EV} {Q : VK} {f : DE}
/-- the first part of an iterable -/
theorem ti1 {k : Env → EV → Store → RE} {R : VK} {RI : It → Hp → Prop} (h : dTI K ca W (fun env S => (f env S).bind (k env)) σ H RI)
    (hk : ∀ H0 F ρ S env, Sim K ca H0 F ρ S env σ H → ∀ x S1 v F1 H1 ρ1, Now K ca H0 env σ F H ρ F1 H1 ρ1 S1 → RepE K F1 ρ1 H env σ H1 v x → PostI K ca W H0 env σ F H ρ RI (k env x S1) → R v H1) : dTE K ca W f σ H R := by
  obtain ⟨H0, F, ρ, S, env, s, p⟩ := h
  refine ⟨H0, F, ρ, S, env, s, ?_⟩
  have p' : PostI K ca W H0 env σ F H ρ RI ((f env S).bind (k env)) := p
  clear p
  revert p'
  cases q : f env S with
  | ok x S1 => exact fun p v F1 H1 ρ1 n r => hk H0 F ρ S env s x S1 v F1 H1 ρ1 n r p
  | raise e S1 => exact fun p => p
  | stuck => exact fun p => p
theorem ditems_l {a : Addr} {vs : List V} {xs : List PyData} (h : F a = some (.lst vs)) (r : DrAll K F vs xs) : DItems K (Itl K a) F xs where
  stop := fun F' H' i f g hi => ⟨vs, SqL.of (g _ _ (f _ _ h)), by rw [r.length]; exact hi⟩
  go := fun F' H' i f g hi => by
    have hv : i < vs.length := by rw [r.length]; exact hi
    exact ⟨vs, vs[i], SqL.of (g _ _ (f _ _ h)), List.getElem?_eq_getElem hv⟩
  yld := fun F' H' i x H'' d f g hd y => by
    obtain ⟨e, y⟩ := y
    subst e
    obtain ⟨w, e1, e2⟩ := r.get hd
    have := y vs (SqL.of (g _ _ (f _ _ h)))
    rw [e1] at this
    cases this
    exact .inl ⟨rfl, e2.mono f⟩
theorem ditems_t {a : Addr} {vs : List V} {xs : List PyData} (h : SqT K F a vs) (r : DrAll K F vs xs) : DItems K (Itt K a) F xs where
  stop := fun F' H' i f g hi => ⟨vs, same_t g (same_t f h), by rw [r.length]; exact hi⟩
  go := fun F' H' i f g hi => by
    have hv : i < vs.length := by rw [r.length]; exact hi
    exact ⟨vs, vs[i], same_t g (same_t f h), List.getElem?_eq_getElem hv⟩
  yld := fun F' H' i x H'' d f g hd y => by
    obtain ⟨e, y⟩ := y
    subst e
    obtain ⟨w, e1, e2⟩ := r.get hd
    have := y vs (same_t g (same_t f h))
    rw [e1] at this
    cases this
    exact .inl ⟨rfl, e2.mono f⟩
theorem ditems_s {w : Str} : DItems K (Its w) F (w.cps.toList.map fun c => .str ⟨#[c]⟩) where
  stop := fun F' H' i f g hi => by
    have e : w.cps.size ≤ i := by simpa using hi
    exact e
  go := fun F' H' i f g hi => by
    have e : i < w.cps.size := by simpa using hi
    exact e
  yld := fun F' H' i x H'' d f g hd y => by
    obtain ⟨e, c, e1, e2⟩ := y
    subst e e2
    rw [List.getElem?_map] at hd
    have e3 : w.cps.toList[i]? = some c := by simpa using e1
    rw [e3] at hd
    cases hd
    exact .inl ⟨rfl, .str _⟩
theorem ti_it {RI : It → Hp → Prop} (h : dTI K ca W (itE f) σ H RI) : iAny K (dTE K ca W f) σ H RI :=
  ti1 (k := fun env x S1 => match x.fixed with
    | some (.d y) => match itemsG y with
      | some xs => .ok (.d (.list xs)) S1
      | none => .stuck
    | _ => .stuck) h fun H0 F ρ S env s x S1 v F1 H1 ρ1 n r p => by
    cases q : x.fixed with
    | none => simp only [q] at p; exact p.elim
    | some x' =>
      obtain ⟨F2, n2, sm, r2⟩ := n.fixed s.old r q
      cases x' with
      | d y =>
        simp only [q] at p
        cases q2 : itemsG y with
        | none => simp only [q2] at p; exact p.elim
        | some xs =>
          simp only [q2] at p
          cases y with
          | list ys =>
            cases q2
            cases r2 with
            | lst h2 d2 => exact .inl ⟨_, rfl, ⟨_, SqL.of (n2.sim.fz _ _ h2)⟩, p _ _ _ _ n2 (ditems_l h2 d2)⟩
          | tuple ys =>
            cases q2
            cases r2 with
            | tup h2 d2 => exact .inr (.inl ⟨_, rfl, ⟨_, same_t n2.sim.fz h2⟩, p _ _ _ _ n2 (ditems_t h2 d2)⟩)
          | str w =>
            cases q2
            cases r2
            exact .inr (.inr ⟨w, rfl, p _ _ _ _ n2 ditems_s⟩)
          | _ => cases q2
      | _ => simp only [q] at p; exact p.elim
end
/-! ### range -/
def rngL (lo : Int) (n : Nat) : List PyData := (List.range n).map fun i => PyData.int (lo + (i : Nat))
noncomputable def rngK (x : EV) (S1 : Store) : RE := match x with
  | .d (.int n) => @ite _ (-(2 ^ 62) ≤ n ∧ n < 2 ^ 62) (Classical.propDecidable _) (.ok (.d (.list (rngL 0 n.toNat))) S1) .stuck
  | _ => .stuck
noncomputable def rng1 (f : DE) : DE := fun env S => (f env S).bind rngK
noncomputable def rng2K (x y : EV) (S2 : Store) : RE := match x, y with
  | .d (.int lo), .d (.int hi) => @ite _ (-(2 ^ 62) ≤ lo ∧ lo < 2 ^ 62 ∧ -(2 ^ 62) ≤ hi ∧ hi < 2 ^ 62) (Classical.propDecidable _) (.ok (.d (.list (rngL lo (hi - lo).toNat))) S2) .stuck
  | _, _ => .stuck
noncomputable def rng2 (f g : DE) : DE := fun env S => (f env S).bind fun x S1 => (g env S1).bind (rng2K x)
section
variable {K : PySem.W.Frag} {ca : Str → Addr} {W : WX} {H0 F H F' H' F1 H1 F2 H2 B : Hp} {ρ ρ' ρ1 ρ2 : List Addr} {S S' S1 S2 : Store} {env : Env} {σ : L2.St} {v : V} {ev : EV} {Q : VK} {f g : DE}
theorem ditems_r {lo : Int} {n : Nat} : DItems K (Itr lo n) F (rngL lo n) where
  stop := fun F' H' i f g hi => by
    have e : n ≤ i := by simpa [rngL] using hi
    exact e
  go := fun F' H' i f g hi => by
    have e : i < n := by simpa [rngL] using hi
    exact e
  yld := fun F' H' i x H'' d f g hd y => by
    obtain ⟨e, e2⟩ := y
    subst e e2
    unfold rngL at hd
    rw [List.getElem?_map] at hd
    have hl : i < n := by
      by_cases h : i < n
      · exact h
      · rw [List.getElem?_eq_none_iff.mpr (by rw [List.length_range]; omega)] at hd
        cases hd
    rw [List.getElem?_range hl] at hd
    cases hd
    exact .inl ⟨rfl, .int _⟩
theorem ti_rng1 {RI : It → Hp → Prop} (h : dTI K ca W (rng1 f) σ H RI) : iRng1 (tCons (dTE K ca W f) tNil) σ H RI :=
  ti1 (k := fun _ => rngK) h fun H0 F ρ S env s x S1 v F1 H1 ρ1 n r p => by
    have go : ∀ m, x = .d (.int m) → PostI K ca W H0 env σ F H ρ RI (@ite _ (-(2 ^ 62) ≤ m ∧ m < 2 ^ 62) (Classical.propDecidable _) (.ok (.d (.list (rngL 0 m.toNat))) S1) .stuck) → ∃ j : Int, [v] = [.int j] ∧ -(2 ^ 62) ≤ j ∧ j < 2 ^ 62 ∧ RI (Itr 0 j.toNat) H1 := fun m e pp => by
      subst e
      cases r
      by_cases hm : -(2 ^ 62) ≤ m ∧ m < 2 ^ 62
      · rw [if_pos hm] at pp
        exact ⟨m, rfl, hm.1, hm.2, pp _ _ _ _ n ditems_r⟩
      · rw [if_neg hm] at pp
        exact pp.elim
    cases x with
    | d y =>
      cases y with
      | int m => exact go m rfl p
      | _ => exact p.elim
    | _ => exact p.elim
theorem ti2 {k : EV → Store → RE} {R : VK} {RI : It → Hp → Prop} (n : Now K ca H0 env σ F H ρ F1 H1 ρ1 S1) (p : PostI K ca W H0 env σ F H ρ RI ((g env S1).bind k))
    (hk : ∀ y S2 v F2 H2 ρ2, Now K ca H0 env σ F H ρ F2 H2 ρ2 S2 → Stp F1 H1 ρ1 F2 H2 ρ2 → RepE K F2 ρ2 H1 env σ H2 v y → PostI K ca W H0 env σ F H ρ RI (k y S2) → R v H2) : dTE K ca W g σ H1 R := by
  refine ⟨H0, F1, ρ1, S1, env, n.sim, ?_⟩
  revert p
  cases q : g env S1 with
  | ok x S2 => exact fun p v F2 H2 ρ2 n2 r => hk x S2 v F2 H2 ρ2 ⟨n.stp.trans n2.stp, n2.sim⟩ n2.stp r p
  | raise e S1 => exact fun p cls d F2 H2 ρ2 n2 r => p cls d F2 H2 ρ2 ⟨n.stp.trans n2.stp, n2.sim⟩ r
  | stuck => exact fun p => p
theorem ti_rng2 {RI : It → Hp → Prop} (h : dTI K ca W (rng2 f g) σ H RI) : iRng2 (tCons (dTE K ca W f) (tCons (dTE K ca W g) tNil)) σ H RI :=
  ti1 (k := fun env x S1 => (g env S1).bind (rng2K x)) h fun H0 F ρ S env s x S1 v F1 H1 ρ1 n r p => ti2 n p fun y S2 v2 F2 H2 ρ2 n2 st r2 p2 => by
    have r1 := r.step st
    have go : ∀ lo hi, x = .d (.int lo) → y = .d (.int hi) → PostI K ca W H0 env σ F H ρ RI (@ite _ (-(2 ^ 62) ≤ lo ∧ lo < 2 ^ 62 ∧ -(2 ^ 62) ≤ hi ∧ hi < 2 ^ 62) (Classical.propDecidable _) (.ok (.d (.list (rngL lo (hi - lo).toNat))) S2) .stuck) →
        ∃ i j : Int, [v, v2] = [.int i, .int j] ∧ (-(2 ^ 62) ≤ i ∧ i < 2 ^ 62 ∧ -(2 ^ 62) ≤ j ∧ j < 2 ^ 62) ∧ RI (Itr i (j - i).toNat) H2 := fun lo hi e e' pp => by
      subst e e'
      cases r1
      cases r2
      by_cases hm : -(2 ^ 62) ≤ lo ∧ lo < 2 ^ 62 ∧ -(2 ^ 62) ≤ hi ∧ hi < 2 ^ 62
      · rw [if_pos hm] at pp
        exact ⟨lo, hi, rfl, hm, pp _ _ _ _ n2 ditems_r⟩
      · rw [if_neg hm] at pp
        exact pp.elim
    cases x with
    | d a =>
      cases a with
      | int lo =>
        cases y with
        | d b =>
          cases b with
          | int hi => exact go lo hi rfl rfl p2
          | _ => exact p2.elim
        | _ => exact p2.elim
      | _ => exact p2.elim
    | _ => exact p2.elim
end
section
variable {X : Cx} {ca : Str → Addr} {W : WX} {tg a b e : Expr} {f g : DE} {p pos : Pos}
theorem ji_it (h : JE X ca W e f) : JI X ca W tg e (itE f) := imp_i (pi_any h) fun σ H R h => ti_it h
theorem ji_rng1 (hg : Gl X "range") (hm : X.mg "range" = none) (h : JE X ca W a f) (hs : starEach [a] X.env = [(false, eval a X.env)] := by rfl) : JI X ca W tg (.Call (.Name "range" p) [a] [] pos) (rng1 f) :=
  imp_i (pi_range1 hg hm (pa_cons h pa_nil hs) hs) fun σ H R h => ti_rng1 h
theorem ji_rng2 (hg : Gl X "range") (hm : X.mg "range" = none) (h : JE X ca W a f) (h2 : JE X ca W b g) (hs : starEach [a, b] X.env = [(false, eval a X.env), (false, eval b X.env)] := by rfl) (hs2 : starEach [b] X.env = [(false, eval b X.env)] := by rfl) : JI X ca W tg (.Call (.Name "range" p) [a, b] [] pos) (rng2 f g) :=
  imp_i (pi_range2 hg hm (pa_cons h (pa_cons h2 pa_nil hs2) (by rw [hs, hs2])) hs hs2) fun σ H R h => ti_rng2 h
end

/-! ### targets -/
/-- what a target does with a datum: the slots that change -/
abbrev DG := EV → Env → Option Env
def tgN (i : Nat) : DG := fun x env => some (env.set i (some x))
def setAll : List Nat → List PyData → Env → Option Env
  | [], [], env => some env
  | i :: is, d :: ds, env => setAll is ds (env.set i (some (.d d)))
  | _, _, _ => none
/-- (a, b, ..): a tuple, or a list -/
def tgT (is : List Nat) : DG := fun x env => match x with
  | .d (.tuple ds) => setAll is ds env
  | _ => none
def tgL (is : List Nat) : DG := fun x env => match x with
  | .d (.list ds) => setAll is ds env
  | _ => none
def gD (K : PySem.W.Frag) (ca : Str → Addr) (t : DG) (is : List Nat) : TG := fun v σ H Q => ∃ H0 F ρ S env x env', Sim K ca H0 F ρ S env σ H ∧ RepV K F ρ H0 H v x ∧ x.isOwn = false ∧ t x env = some env' ∧
  ∀ σ', Sim K ca H0 F ρ S env' σ' H → wipe σ' is = wipe σ is → Q σ' H
abbrev JG (X : Cx) (ca : Str → Addr) (tg : Expr) (t : DG) (is : List Nat) : Prop := PG X tg (gD X.K ca t is)
theorem wipe_in {σ : L2.St} : ∀ {vs : List Nat} {j : Nat}, j ∈ vs → j < σ.length → (wipe σ vs)[j]? = some none
  | v :: vs, j, h, hl => by
    unfold wipe
    by_cases e : v = j
    · subst e
      rw [List.getElem?_set_self (by rw [wipe_length]; exact hl)]
    · rw [List.getElem?_set_ne e]
      rcases List.mem_cons.mp h with z | z
      · exact absurd z.symm e
      · exact wipe_in z hl
theorem wipe_ni {σ : L2.St} {i : Nat} : ∀ {vs : List Nat}, i ∉ vs → (wipe σ vs)[i]? = σ[i]?
  | [], _ => rfl
  | v :: vs, h => by
    have h1 : v ≠ i := fun e => h (by rw [e]; exact List.mem_cons_self)
    have h2 : i ∉ vs := fun m => h (List.mem_cons_of_mem _ m)
    unfold wipe
    rw [List.getElem?_set_ne h1]
    exact wipe_ni h2
theorem wipe_ext {σ σ' : L2.St} {vs : List Nat} (hl : σ'.length = σ.length) (h : ∀ j, j ∉ vs → σ'[j]? = σ[j]?) : wipe σ' vs = wipe σ vs := by
  apply List.ext_getElem?
  intro j
  by_cases hj : j ∈ vs
  · by_cases hb : j < σ.length
    · rw [wipe_in hj (by rw [hl]; exact hb), wipe_in hj hb]
    · rw [List.getElem?_eq_none_iff.mpr (by rw [wipe_length, hl]; omega), List.getElem?_eq_none_iff.mpr (by rw [wipe_length]; omega)]
  · rw [wipe_ni hj, wipe_ni hj, h j hj]
theorem wipe_set {σ : L2.St} {vs : List Nat} {i : Nat} {o : Option V} (h : i ∈ vs) : wipe (σ.set i o) vs = wipe σ vs := wipe_ext (by rw [List.length_set]) fun j hj => by
  rw [List.getElem?_set_ne (fun e => hj (by rw [← e]; exact h))]
theorem wipe_wipe {σ : L2.St} {vs : List Nat} : wipe (wipe σ vs) vs = wipe σ vs := wipe_ext (by rw [wipe_length]) fun j hj => wipe_ni hj
theorem imp_g {X : Cx} {tg : Expr} {t t' : TG} (h : PG X tg t) (i : ∀ v σ H Q, t' v σ H Q → t v σ H Q) : PG X tg t' := ⟨fun pins s σ H v u Q I r q => h.run pins s σ H v u Q I r (i v σ H Q q)⟩
theorem jg_name {X : Cx} {ca : Str → Addr} {i : Nat} {x : Str} {pos : Pos} (hN : X.N.Nodup) (hi : X.N[i]? = some x) (hx : Loc X.env.scope x) (hf : X.fn x = true ∨ X.env.scope.names.lookup x = some .local := by first | exact .inl rfl | exact .inr rfl | assumption) : JG X ca (.Name x pos) (tgN i) [i] :=
  imp_g (pg_name hN hi hx hf) fun v σ H Q ⟨H0, F, ρ, S, env, x, env', s, r, ho, e, q⟩ => by
    cases e
    exact q _ (s.setSlot i r fun o => by rw [ho] at o; cases o) (wipe_set (by simp))
/-- names one after another -/
def gNames : List Nat → TGs
  | [] => gNil
  | i :: is => gCons (gName i) (gNames is)
theorem names_go {K : PySem.W.Frag} {ca : Str → Addr} {H0 F H : Hp} {ρ : List Addr} {S : Store} {all : List Nat} : ∀ (is : List Nat) (vs : List V) (ds : List PyData) (env env' : Env) (σ : L2.St) (Q : L2.St → Hp → Prop), (∀ i, i ∈ is → i ∈ all) → Sim K ca H0 F ρ S env σ H → DrAll K F vs ds → setAll is ds env = some env' →
    (∀ σ', Sim K ca H0 F ρ S env' σ' H → wipe σ' all = wipe σ all → Q σ' H) → gNames is vs σ H Q
  | [], _, _, env, env', σ, Q, _, s, .nil, e, q => by
    cases e
    exact ⟨rfl, q _ s rfl⟩
  | [], _, _, env, env', σ, Q, _, s, .cons _ _, e, q => by cases e
  | i :: is, _, _, env, env', σ, Q, _, s, .nil, e, q => by cases e
  | i :: is, v :: vs, d :: ds, env, env', σ, Q, hi, s, .cons h r, e, q => by
    refine ⟨v, vs, rfl, ?_⟩
    exact names_go is vs ds _ env' _ Q (fun j hj => hi j (List.mem_cons_of_mem _ hj)) (s.setSlot (ev := .d d) i h fun o => by cases o) r e fun σ' s' w => q σ' s' (w.trans (wipe_set (hi i List.mem_cons_self)))
theorem setAll_len : ∀ (is : List Nat) (ds : List PyData) (env env' : Env), setAll is ds env = some env' → ds.length = is.length
  | [], [], _, _, _ => rfl
  | [], _ :: _, _, _, h => by cases h
  | _ :: _, [], _, _, h => by cases h
  | i :: is, d :: ds, env, env', h => by rw [List.length_cons, List.length_cons, setAll_len is ds _ env' h]
theorem jg_tup {X : Cx} {ca : Str → Addr} {es : List Expr} {k : Nat} {pos : Pos} {is : List Nat} (hc : X.calm = true) (h : PGs X es (gNames is)) (hn : (assignEach es X.env).length = is.length := by rfl) (hst : (assignEach es X.env).findIdx? (·.1) = none := by rfl) : JG X ca (.Tuple es k pos) (tgT is) is :=
  imp_g (pg_tup hc h hn hst) fun v σ H Q ⟨H0, F, ρ, S, env, x, env', s, r, ho, e, q⟩ => by
    cases x with
    | d y =>
      cases y with
      | tuple ds =>
        cases r with
        | tup h1 d1 =>
          exact ⟨_, _, rfl, same_t s.fz h1, by rw [d1.length]; exact setAll_len _ _ _ _ e, names_go is _ ds env env' σ Q (fun _ h => h) s d1 e q⟩
      | _ => cases e
    | _ => cases e
theorem jg_unl {X : Cx} {ca : Str → Addr} {es : List Expr} {k : Nat} {pos : Pos} {is : List Nat} (hc : X.calm = true) (h : PGs X es (gNames is)) (hn : (assignEach es X.env).length = is.length := by rfl) (hst : (assignEach es X.env).findIdx? (·.1) = none := by rfl) : JG X ca (.Tuple es k pos) (tgL is) is :=
  imp_g (pg_unl hc h hn hst) fun v σ H Q ⟨H0, F, ρ, S, env, x, env', s, r, ho, e, q⟩ => by
    cases x with
    | d y =>
      cases y with
      | list ds =>
        cases r with
        | lst h1 d1 =>
          exact ⟨_, _, rfl, SqL.of (s.fz _ _ h1), by rw [d1.length]; exact setAll_len _ _ _ _ e, names_go is _ ds env env' σ Q (fun _ h => h) s d1 e q⟩
      | _ => cases e
    | _ => cases e
/-- target = e -/
def asgG (t : DG) (f : DE) : DS := fun env S => (f env S).bindS env fun x S1 => match x.fixed with
  | some ev => match t ev env with
    | some env' => .next env' S1
    | none => .stuck
  | none => .stuck
theorem js_asg {X : Cx} {ca : Str → Addr} {W : WX} {tg e : Expr} {t : DG} {f : DE} {pos : Pos} {is : List Nat} (h : JE X ca W e f) (hg : JG X ca tg t is) (hs : swapsWithSole [tg] e pos.line X.env = pure false := by rfl) (hw : swappedStores [tg] e X.env = pure none := by rfl)
    (h1 : (assignEach [tg] X.env).map (·.2) = [assign tg X.env] := by rfl) : JS X ca W (.Assign [tg] e pos) (asgG t f) := fun z => imp_s (ps_asg h hg hs hw h1) fun D σ H ⟨F, ρ, S, env, s, p⟩ =>
  ts1 (D := D) s p fun x S1 v F1 H1 ρ1 n s1 r p1 => by
    cases q : x.fixed with
    | none => simp only [q] at p1; exact p1.elim
    | some ev =>
      simp only [q] at p1
      obtain ⟨F2, s2, sm, r2⟩ := s.fixed n r q
      cases q2 : t ev env with
      | none => simp only [q2] at p1; exact p1.elim
      | some env' =>
        simp only [q2] at p1
        exact ⟨z.H0, F2, ρ1, S1, env, ev, env', s2.sim, r2, fixed_own q, q2, fun σ' s3 _ => p1 σ' F2 H1 ρ1 sm ⟨s3, s2.stp⟩⟩

/-! ### for -/
def forD (t : DG) (body : DS) : List PyData → DS
  | [] => fun env S => .next env S
  | d :: ds => fun env S => match t (.d d) env with
    | none => .stuck
    | some env1 => match body env1 S with
      | .next env' S' => forD t body ds env' S'
      | .cont env' S' => forD t body ds env' S'
      | .brk env' S' => .next env' S'
      | .ret v S' => .ret v S'
      | .raise e env' S' => .raise e env' S'
      | .stuck => .stuck
def forS (f : DE) (t : DG) (body : DS) : DS := fun env S => (f env S).bindS env fun x S1 => match x with
  | .d (.list xs) => forD t body xs env S1
  | _ => .stuck
theorem DItems.on {K : PySem.W.Frag} {J : It} {F F' : Hp} {xs : List PyData} (f : Same F F') (h : DItems K J F xs) : DItems K J F' xs :=
  ⟨fun G H i g k => h.stop G H i (f.trans g) k, fun G H i g k => h.go G H i (f.trans g) k, fun G H i x H'' d g k => h.yld G H i x H'' d (f.trans g) k⟩
theorem js_for {X : Cx} {ca : Str → Addr} {W : WX} {tg iter : Expr} {body : List Stmt} {f : DE} {t : DG} {g : DS} {pos : Pos} (hp : PassesOwn (model X.prog X.w) X.A X.env X.xe) (hc : X.calm = true) {is : List Nat} (hi : JI X ca W tg iter f) (hg : JG X ca tg t is) (hb : JSs X ca W body g)
    (hs : ∀ x, foldedSetIterable iter X.env x = pure x := by intro _; rfl) : JS X ca W (.For tg iter body [] pos) (forS f t g) := fun z => imp_s (ps_for hp hc hi hg (hb z) hs) fun D σ H ⟨F, ρ, S, env, s, p⟩ => by
  refine ⟨z.H0, F, ρ, S, env, s.sim, ?_⟩
  have run : ∀ xs S1, PostS X.K ca W z F D (forD t g xs env S1) → ∀ F1 H1 ρ1 J, Now X.K ca z.H0 env σ F H ρ F1 H1 ρ1 S1 → DItems X.K J F1 xs →
      ∃ Wv : Nat → Nat → L2.St → Hp → Prop, (∃ m, Wv 0 m σ H1) ∧ ∀ i m σ H, Wv i m σ H →
      (J.stop i H ∧ D.nx σ H) ∨ (J.go i H ∧ ∃ N : L2.St → Hp → Prop, (∀ σ' H', N σ' H' → ∃ m', m' < m ∧ Wv (i + 1) m' σ' H') ∧ ∀ x H', J.yld i H x H' →
        gD X.K ca t is x σ H' fun σ2 H2 => dTS X.K ca W z g { D with nx := N, ct := N, bk := D.nx } σ2 H2) := by
    intro xs S1 p F1 H1 ρ1 J n dj
    refine ⟨fun i m σ H => m = xs.length - i ∧ i ≤ xs.length ∧ ∃ F' ρ' S' env', Same F1 F' ∧ SimS X.K ca z F' ρ' S' env' σ H ∧ PostS X.K ca W z F' D (forD t g (xs.drop i) env' S'),
      ⟨xs.length, by simp, Nat.zero_le _, F1, ρ1, S1, env, Same.refl _, s.on n, p.mono n.stp.fz⟩, ?_⟩
    rintro i m σ2 H2 ⟨rfl, hi2, F2, ρ2, S2, env2, f2, s2, p2⟩
    have dj2 := dj.on f2
    by_cases hlt : i < xs.length
    · refine .inr ⟨dj2.go F2 H2 i (Same.refl _) s2.sim.fz hlt, fun σ' H' => ∃ F' ρ' S' env', Same F1 F' ∧ SimS X.K ca z F' ρ' S' env' σ' H' ∧ PostS X.K ca W z F' D (forD t g (xs.drop (i + 1)) env' S'),
        fun σ' H' h => ⟨xs.length - (i + 1), by omega, rfl, hlt, h⟩, fun x H3 y => ?_⟩
      have hd : xs[i]? = some xs[i] := List.getElem?_eq_getElem hlt
      have ed : xs.drop i = xs[i] :: xs.drop (i + 1) := List.drop_eq_getElem_cons hlt
      rw [ed] at p2
      -- the turn's item, in its state
      obtain ⟨F3, f3, s3, r3⟩ : ∃ F3, Same F2 F3 ∧ SimS X.K ca z F3 ρ2 S2 env2 σ2 H3 ∧ Dr X.K F3 x xs[i] := by
        rcases dj2.yld F2 H2 i x H3 _ (Same.refl _) s2.sim.fz hd y with ⟨e, r⟩ | ⟨T, vs, ds, e1, e2, e3, e4, r⟩
        · subst e
          exact ⟨F2, Same.refl _, s2, r⟩
        · subst e2 e3
          have n3 : Now X.K ca z.H0 env2 σ2 F2 H2 ρ2 F2 H2 ρ2 S2 := ⟨Stp.refl _ _ _, s2.sim⟩
          have n4 := n3.newT (vs := vs) e1
          have hF := s2.sim.unfz e1
          refine ⟨_, same_fix hF, s2.on n4, ?_⟩
          rw [e4]
          exact .tup (.inl (.inl upd_same)) (r.mono (same_fix hF))
      unfold forD at p2
      cases q : t (.d xs[i]) env2 with
      | none => simp only [q] at p2; exact p2.elim
      | some env3 =>
        simp only [q] at p2
        refine ⟨z.H0, F3, ρ2, S2, env2, .d xs[i], env3, s3.sim, r3, rfl, q, fun σ4 s4 _ => ⟨F3, ρ2, S2, env3, ⟨s4, s3.stp⟩, ?_⟩⟩
        revert p2
        cases q2 : g env3 S2 with
        | next env' S' => exact fun p2 σ' F' H' ρ' f' s' => ⟨F', ρ', S', env', f2.trans (f3.trans f'), s', p2.mono (f3.trans f')⟩
        | cont env' S' => exact fun p2 σ' F' H' ρ' f' s' => ⟨F', ρ', S', env', f2.trans (f3.trans f'), s', p2.mono (f3.trans f')⟩
        | brk env' S' => exact fun p2 σ' F' H' ρ' f' s' => p2 σ' F' H' ρ' (f3.trans f') s'
        | ret v S' => exact fun p2 => p2
        | raise e env' S' => exact fun p2 cls d σ' F' H' ρ' f' s' r => p2 cls d σ' F' H' ρ' (f3.trans f') s' r
        | stuck => exact fun p2 => p2
    · have e : i = xs.length := by omega
      subst e
      rw [List.drop_length] at p2
      exact .inl ⟨dj2.stop F2 H2 _ (Same.refl _) s2.sim.fz (Nat.le_refl _), p2 σ2 F2 H2 ρ2 (Same.refl _) s2⟩
  have p' : PostS X.K ca W z F D ((f env S).bindS env fun x S1 => match x with
    | .d (.list xs) => forD t g xs env S1
    | _ => .stuck) := p
  clear p
  revert p'
  cases q : f env S with
  | ok x S1 =>
    cases x with
    | d y =>
      cases y with
      | list xs => exact fun p F1 H1 ρ1 J n dj => run xs S1 p F1 H1 ρ1 J n dj
      | _ => exact fun p => p.elim
    | _ => exact fun p => p.elim
  | raise e S1 => exact fun p cls d F1 H1 ρ1 n r => p cls d σ F1 H1 ρ1 n.stp.fz (s.on n) r
  | stuck => exact fun p => p.elim
end DL

set_option Elab.async false
set_option linter.all false
set_option maxRecDepth 100000
set_option maxHeartbeats 4000000
/-! DL9: lists that change, while, comprehensions, defs and their calls. -/
namespace DL
open PySem PySem.Spec PyProof.Rows L2

section
variable {K : PySem.W.Frag} {ca : Str → Addr} {W : WX} {z : Ses} {H0 F H F' H' F1 H1 F2 H2 B : Hp} {ρ ρ' ρ1 ρ2 : List Addr} {S S' S1 S2 : Store} {env env' : Env} {σ σ' : L2.St} {v : V} {ev : EV} {D : Ends}
/-- the own list of a slot is changed -/
theorem Sim.mutOwn (s : Sim K ca H0 F ρ S env σ H) {i : Nat} {a : Addr} {xs ys : List PyData} {ws : List V} (e : env[i]? = some (some (.own xs))) (e2 : σ[i]? = some (some (.ref a))) (r : DrAll K F ws ys) :
    Sim K ca H0 F ρ S (env.set i (some (.own ys))) σ (upd H a (.lst ws)) := by
  obtain ⟨hF, hB, hr, hH⟩ := s.own_at e rfl e2
  have ne : ∀ b, b ∈ ρ → b ≠ a := fun b hb z => hr (z ▸ hb)
  have sl : ∀ j ej, env.set i (some (.own ys)) = env.set i (some (.own ys)) → (env.set i (some (.own ys)))[j]? = some (some ej) → (j = i ∧ ej = .own ys) ∨ (j ≠ i ∧ env[j]? = some (some ej)) := fun j ej _ h => by
    rcases get_set h with ⟨h1, _, h3⟩ | ⟨h1, h2⟩
    · cases h3
      exact .inl ⟨h1, rfl⟩
    · exact .inr ⟨h1, h2⟩
  refine ⟨fun b o hb => ?_, s.len, s.nd, s.rfz, fun l b c e3 e4 => ?_, by rw [List.length_set]; exact s.lenE, fun j ej h => ?_, fun j k ej ek b h1 h2 o1 o2 h3 h4 => ?_⟩
  · have : b ≠ a := fun z => by rw [z, hF] at hb; cases hb
    rw [upd_ne this]
    exact s.fz _ _ hb
  · have hb := ne b (List.mem_of_getElem? e3)
    have h := s.cell l b c e3 e4
    cases c with
    | lst cs =>
      obtain ⟨vs, q1, q2⟩ := h
      exact ⟨vs, by rw [upd_ne hb]; exact q1, q2⟩
    | obj cn fs =>
      obtain ⟨dx, vs, q1, q2⟩ := h
      exact ⟨dx, vs, by rw [upd_ne hb]; exact q1, q2⟩
  · rcases sl j ej rfl h with ⟨rfl, rfl⟩ | ⟨hj, h⟩
    · exact ⟨_, e2, a, ws, rfl, hB, upd_same, hF, hr, r⟩
    · obtain ⟨w, q1, q2⟩ := s.slot j ej h
      refine ⟨w, q1, ?_⟩
      have apart : ∀ (b : Addr), ej.isOwn = true → w = .ref b → b ≠ a := fun b o hw z => by
        rw [hw, z] at q1
        exact hj (s.ownD j i ej _ a h e o rfl q1 e2)
      cases ej with
      | own zs =>
        obtain ⟨b, vs, r1, r2, r3, r4⟩ := q2
        exact ⟨b, vs, r1, r2, by rw [upd_ne (apart b rfl r1)]; exact r3, r4⟩
      | ownD zs =>
        obtain ⟨b, vs, r1, r2, r3, r4⟩ := q2
        exact ⟨b, vs, r1, r2, by rw [upd_ne (apart b rfl r1)]; exact r3, r4⟩
      | d x => exact q2
      | bor x => exact q2
      | borD x => exact q2
      | ref x => exact q2
      | scr x => exact q2
      | opq x => exact q2
      | fn x => exact q2
  · have own : ∀ (j : Nat) (ej : EV), (env.set i (some (.own ys)))[j]? = some (some ej) → ej.isOwn = true → ∃ ek, env[j]? = some (some ek) ∧ ek.isOwn = true := fun j ej h o => by
      rcases sl j ej rfl h with ⟨rfl, rfl⟩ | ⟨hj, h⟩
      · exact ⟨_, e, rfl⟩
      · exact ⟨ej, h, o⟩
    obtain ⟨e5, h5, o5⟩ := own j ej h1 o1
    obtain ⟨e6, h6, o6⟩ := own k ek h2 o2
    exact s.ownD j k e5 e6 b h5 h6 o5 o6 h3 h4
theorem SimS.mutOwn (s : SimS K ca z F ρ S env σ H) {i : Nat} {a : Addr} {xs ys : List PyData} {ws : List V} (e : env[i]? = some (some (.own xs))) (e2 : σ[i]? = some (some (.ref a))) (r : DrAll K F ws ys) :
    SimS K ca z F ρ S (env.set i (some (.own ys))) σ (upd H a (.lst ws)) := by
  obtain ⟨hF, hB, hr, hH⟩ := s.sim.own_at e rfl e2
  refine ⟨s.sim.mutOwn e e2 r, s.stp.fz, s.stp.nfz, s.stp.rho, fun b o h1 h2 => ?_, fun b hb => ?_⟩
  · have : b ≠ a := fun z => by rw [z, hB] at h2; cases h2
    rw [upd_ne this]
    exact s.stp.fr b o h1 h2
  · by_cases e : b = a
    · rw [e]; exact hB
    · rw [upd_ne e] at hb
      exact s.stp.mono b hb
/-- a cell's list is changed -/
theorem Sim.mutCell (s : Sim K ca H0 F ρ S env σ H) {l : Nat} {a : Addr} {ys : List PyData} {ws : List V} (e : ρ[l]? = some a) (r : DrAll K F ws ys) :
    Sim K ca H0 F ρ (S.set l (.lst ys)) env σ (upd H a (.lst ws)) := by
  have ha : a ∈ ρ := List.mem_of_getElem? e
  have hF := s.rfz a ha
  refine ⟨fun b o hb => ?_, by rw [List.length_set]; exact s.len, s.nd, s.rfz, fun k b c e3 e4 => ?_, s.lenE, fun j ej h => ?_, s.ownD⟩
  · have : b ≠ a := fun z => by rw [z, hF] at hb; cases hb
    rw [upd_ne this]
    exact s.fz _ _ hb
  · rcases get_set e4 with ⟨h1, h2, h3⟩ | ⟨h1, h2⟩
    · subst h1 h3
      rw [e] at e3
      cases e3
      exact ⟨ws, upd_same, r⟩
    · have hb : b ≠ a := fun z => by
        subst z
        exact h1 (nodup_ixA s.nd e3 e)
      have h := s.cell k b c e3 h2
      cases c with
      | lst cs =>
        obtain ⟨vs, q1, q2⟩ := h
        exact ⟨vs, by rw [upd_ne hb]; exact q1, q2⟩
      | obj cn fs =>
        obtain ⟨dx, vs, q1, q2⟩ := h
        exact ⟨dx, vs, by rw [upd_ne hb]; exact q1, q2⟩
  · obtain ⟨w, q1, q2⟩ := s.slot j ej h
    refine ⟨w, q1, ?_⟩
    cases ej with
    | own zs =>
      obtain ⟨b, vs, r1, r2, r3, r4, r5, r6⟩ := q2
      exact ⟨b, vs, r1, r2, by rw [upd_ne (show b ≠ a from fun z => r5 (by rw [z]; exact ha))]; exact r3, r4, r5, r6⟩
    | ownD zs =>
      obtain ⟨b, vs, r1, r2, r3, r4, r5, r6⟩ := q2
      exact ⟨b, vs, r1, r2, by rw [upd_ne (show b ≠ a from fun z => r5 (by rw [z]; exact ha))]; exact r3, r4, r5, r6⟩
    | d x => exact q2
    | bor x => exact q2
    | borD x => exact q2
    | ref x => exact q2
    | scr x => exact q2
    | opq x => exact q2
    | fn x => exact q2
where
  nodup_ixA {l : List Addr} (hN : l.Nodup) {i j : Nat} {x : Addr} (a : l[i]? = some x) (b : l[j]? = some x) : i = j := by
    obtain ⟨h1, e1⟩ := List.getElem?_eq_some_iff.mp a
    obtain ⟨h2, e2⟩ := List.getElem?_eq_some_iff.mp b
    exact (List.getElem_inj hN).mp (e1.trans e2.symm)
theorem SimS.mutCell (s : SimS K ca z F ρ S env σ H) {l : Nat} {a : Addr} {ys : List PyData} {ws : List V} (e : ρ[l]? = some a) (r : DrAll K F ws ys) :
    SimS K ca z F ρ (S.set l (.lst ys)) env σ (upd H a (.lst ws)) := by
  have ha : a ∈ ρ := List.mem_of_getElem? e
  have old : a ∈ z.r0 ∨ z.H0 a = none := by
    obtain ⟨new, e1, e2⟩ := s.stp.rho
    rw [e1] at ha
    rcases List.mem_append.mp ha with h | h
    · exact .inl h
    · exact .inr (e2 a h)
  refine ⟨s.sim.mutCell e r, s.stp.fz, s.stp.nfz, s.stp.rho, fun b o h1 h2 => ?_, fun b hb => ?_⟩
  · have : b ≠ a := fun z => by
      rcases old with q | q
      · exact h1 (z ▸ q)
      · rw [z, q] at h2; cases h2
    rw [upd_ne this]
    exact s.stp.fr b o h1 h2
  · by_cases e : b = a
    · rw [e, upd_same] at hb
      cases hb
    · rw [upd_ne e] at hb
      exact s.stp.mono b hb
/-- an own list becomes a cell -/
theorem Now.cell (n : Now K ca H0 env σ F H ρ F1 H1 ρ1 S1) (old : Old env σ H) {xs : List PyData} (r : RepE K F1 ρ1 H env σ H1 v (.own xs)) :
    ∃ a, v = .ref a ∧ Now K ca H0 env σ F H ρ F1 H1 (ρ1 ++ [a]) (S1 ++ [.lst xs]) := by
  obtain ⟨a, vs, e1, e2, e3, e4, e5, e6⟩ := r
  have s := n.sim
  have hget : ∀ (k : Nat) (b : Addr), ρ1[k]? = some b → (ρ1 ++ [a])[k]? = some b := fun k b h => by
    rw [List.getElem?_append_left (List.getElem?_eq_some_iff.mp h).1]
    exact h
  refine ⟨a, e1, ⟨n.stp.fz, n.stp.nfz, ?_, n.stp.fr, n.stp.mono⟩, ⟨s.fz, by rw [List.length_append, List.length_append, s.len]; rfl, ?_, fun b hb => ?_, fun k b c h1 h2 => ?_, s.lenE, fun j ej h => ?_, s.ownD⟩⟩
  · obtain ⟨new, q1, q2⟩ := n.stp.rho
    refine ⟨new ++ [a], by rw [q1, List.append_assoc], fun b hb => ?_⟩
    rcases List.mem_append.mp hb with h | h
    · exact q2 b h
    · simp at h
      rw [h]
      exact e2
  · rw [List.nodup_append]
    refine ⟨s.nd, by simp, fun b hb c hc => ?_⟩
    simp at hc
    subst hc
    exact fun q => e5 (q ▸ hb)
  · rcases List.mem_append.mp hb with h | h
    · exact s.rfz b h
    · simp at h
      rw [h]
      exact e4
  · by_cases hk : k < ρ1.length
    · rw [List.getElem?_append_left hk] at h1
      rw [List.getElem?_append_left (by rw [← s.len]; exact hk)] at h2
      have h := s.cell k b c h1 h2
      cases c with
      | lst cs => exact h
      | obj cn fs =>
        obtain ⟨dx, vs, q1, q2⟩ := h
        exact ⟨dx, vs, q1, Paired.mapP q2 fun p q z => ⟨z.1, RepF.mono (Same.refl _) hget z.2⟩⟩
    · rw [List.getElem?_append_right (by omega)] at h1
      rw [List.getElem?_append_right (by rw [← s.len]; omega)] at h2
      rw [← s.len] at h2
      cases q : k - ρ1.length with
      | zero =>
        rw [q] at h1 h2
        cases h1
        cases h2
        exact ⟨vs, e3, e6⟩
      | succ m =>
        rw [q] at h1
        simp at h1
  · obtain ⟨w, q1, q2⟩ := s.slot j ej h
    refine ⟨w, q1, ?_⟩
    cases ej with
    | own zs =>
      obtain ⟨b, us, r1, r2, r3, r4, r5, r6⟩ := q2
      refine ⟨b, us, r1, r2, r3, r4, fun hb => ?_, r6⟩
      rcases List.mem_append.mp hb with q | q
      · exact r5 q
      · simp at q
        subst r1 q
        exact old _ e2 j _ h rfl q1
    | ownD zs =>
      obtain ⟨b, us, r1, r2, r3, r4, r5, r6⟩ := q2
      refine ⟨b, us, r1, r2, r3, r4, fun hb => ?_, r6⟩
      rcases List.mem_append.mp hb with q | q
      · exact r5 q
      · simp at q
        subst r1 q
        exact old _ e2 j _ h rfl q1
    | d x => exact q2
    | bor x => exact q2
    | borD x => exact q2
    | ref x =>
      obtain ⟨b, q3, q4⟩ := q2
      exact ⟨b, q3, hget _ _ q4⟩
    | scr x => exact q2
    | opq x => exact q2
    | fn x => exact q2
end
/-- a fresh list, known by reference from here on -/
def refE (f : DE) : DE := fun env S => (f env S).bind fun x S1 => match x with
  | .own xs => .ok (.ref S1.length) (S1 ++ [.lst xs])
  | _ => .stuck
theorem je_ref {X : Cx} {ca : Str → Addr} {W : WX} {e : Expr} {f : DE} (h : JE X ca W e f) : JE X ca W e (refE f) := imp_e h fun σ H Q h =>
  te1 (k := fun env x S1 => match x with
  | .own xs => .ok (.ref S1.length) (S1 ++ [.lst xs])
  | _ => .stuck) h fun H0 F ρ S env s x S1 v F1 H1 ρ1 n r p => by
    cases x with
    | own xs =>
      obtain ⟨a, e, n2⟩ := n.cell s.old r
      refine p v F1 H1 _ n2 ⟨a, e, ?_⟩
      rw [← n.sim.len, List.getElem?_append_right (Nat.le_refl _), Nat.sub_self]
      rfl
    | _ => exact p.elim

/-! ### found.append(e) -/
def appS (i : Nat) (f : DE) : DS := fun env S => match env[i]? with
  | some (some (.own xs)) => (f env S).bindS env fun x S1 => match x.fixed with
    | some (.d d) => if xs.length < LIM then .next (env.set i (some (.own (xs ++ [d])))) S1 else .stuck
    | _ => .stuck
  | some (some (.ref l)) => match S[l]? with
    | some (.lst _) => (f env S).bindS env fun x S1 => match x.fixed, S1[l]? with
      | some (.d d), some (.lst xs) => if xs.length < LIM then .next env (S1.set l (.lst (xs ++ [d]))) else .stuck
      | _, _ => .stuck
    | _ => .stuck
  | _ => .stuck
section
variable {X : Cx} {ca : Str → Addr} {W : WX} {e : Expr} {f : DE}
theorem js_app {i : Nat} {x : Str} {p apos cpos pos : Pos} (hN : X.N[i]? = some x) (hv : Vis X.env.scope x) (h : JE X ca W e f) (hd : (x == ("__debug__" : Str)) = false := by decide) (hcd : (x == ("__classdict__" : Str)) = false := by decide)
    (hbase : attributeBase (.Name x p) "append" X.env (eval (.Name x p) X.env) = eval (.Name x p) X.env := by rfl)
    (hfew : ((backTo cpos (starEach [e] X.env)).all (fun x => !x.1) && (backToKw cpos (keywordEach [] X.env)).all (fun x => x.1.isSome) && decide ([e].length + ([] : List Keyword).length + (if ([] : List Keyword).isEmpty then 0 else 1) < 30)) = true := by rfl)
    (hline : (apos.endLine == cpos.line) = true := by rfl) (hs : starEach [e] X.env = (false, eval e X.env) :: starEach [] X.env := by rfl) (hsw : swapsWith (.Call (.Attribute (.Name x p) "append" apos) [e] [] cpos) none pos.line X.env = pure false := by rfl) :
    JS X ca W (.Expr (.Call (.Attribute (.Name x p) "append" apos) [e] [] cpos) pos) (appS i f) := fun z =>
  imp_s (ps_expr (pe_bm PySem.F.plainAttrs_list PySem.F.slot_list_append PySem.F.type_list_append mt_append (pe_var hN hv hd hcd) (pa_cons h pa_nil hs) hbase hfew hline hs) hsw) fun D σ H ⟨F, ρ, S, env, s, p⟩ => by
    have hL := lim_eq
    unfold appS at p
    cases q : env[i]? with
    | none => simp only [q] at p; exact p.elim
    | some o =>
      cases o with
      | none => simp only [q] at p; exact p.elim
      | some ev =>
        obtain ⟨w, e1, r0⟩ := s.sim.slot i ev q
        refine ⟨w, e1, ?_⟩
        cases ev with
        | own xs =>
          simp only [q] at p
          obtain ⟨a, ws, r1, r2, r3, r4, r5, r6⟩ := r0
          subst r1
          refine ⟨.inl ⟨rfl, ws, SqL.of r3⟩, ts1 (D := D) s p fun y S1 v F1 H1 ρ1 n s1 r p1 => ?_⟩
          cases q2 : y.fixed with
          | none => simp only [q2] at p1; exact p1.elim
          | some y' =>
            cases y' with
            | d d =>
              simp only [q2] at p1
              by_cases hl : xs.length < LIM
              · rw [if_pos hl] at p1
                obtain ⟨F2, s2, sm, rr⟩ := s.fixed n r q2
                obtain ⟨w2, e2, a2, ws2, t1, t2, t3, t4, t5, t6⟩ := s2.sim.slot i _ q
                rw [e1] at e2
                cases e2
                cases t1
                refine ⟨a, ws2, v, rfl, rfl, t3, by rw [t6.length]; omega, ?_⟩
                exact p1 σ F2 _ ρ1 sm (s2.mutOwn q e1 (t6.append (.cons rr .nil)))
              · rw [if_neg hl] at p1
                exact p1.elim
            | _ => simp only [q2] at p1; exact p1.elim
        | ref l =>
          simp only [q] at p
          obtain ⟨a, r1, r2⟩ := r0
          subst r1
          have main : ∀ y S1 v F1 H1 ρ1, Now X.K ca z.H0 env σ F H ρ F1 H1 ρ1 S1 → SimS X.K ca z F1 ρ1 S1 env σ H1 → RepE X.K F1 ρ1 H env σ H1 v y → PostS X.K ca W z F1 D (match y.fixed, S1[l]? with
              | some (.d d), some (.lst xs) => if xs.length < LIM then .next env (S1.set l (.lst (xs ++ [d]))) else .stuck
              | _, _ => .stuck) → rAppend (.ref a) [v] H1 fun _ H1 => D.nx σ H1 := fun y S1 v F1 H1 ρ1 n s1 r p1 => by
            cases q2 : y.fixed with
            | none => simp only [q2] at p1; exact p1.elim
            | some y' =>
              cases y' with
              | d d =>
                cases q3 : S1[l]? with
                | none => simp only [q2, q3] at p1; exact p1.elim
                | some c =>
                  cases c with
                  | obj cn fs => simp only [q2, q3] at p1; exact p1.elim
                  | lst xs =>
                    simp only [q2, q3] at p1
                    by_cases hl : xs.length < LIM
                    · rw [if_pos hl] at p1
                      obtain ⟨F2, s2, sm, rr⟩ := s.fixed n r q2
                      have e3 := n.stp.rget r2
                      obtain ⟨ws, t3, t6⟩ := s2.sim.cell l a _ e3 q3
                      refine ⟨a, ws, v, rfl, rfl, t3, by rw [t6.length]; omega, ?_⟩
                      exact p1 σ F2 _ ρ1 sm (s2.mutCell e3 (t6.append (.cons rr .nil)))
                    · rw [if_neg hl] at p1
                      exact p1.elim
              | _ => simp only [q2] at p1; exact p1.elim
          cases q4 : S[l]? with
          | none => simp only [q4] at p; exact p.elim
          | some c =>
            cases c with
            | obj cn fs => simp only [q4] at p; exact p.elim
            | lst xs0 =>
              simp only [q4] at p
              obtain ⟨ws, t3, _⟩ := s.sim.cell l a _ r2 q4
              exact ⟨.inl ⟨rfl, ws, SqL.of t3⟩, ts1 (D := D) s p main⟩
        | d x => simp only [q] at p; exact p.elim
        | bor x => simp only [q] at p; exact p.elim
        | borD x => simp only [q] at p; exact p.elim
        | ownD x => simp only [q] at p; exact p.elim
        | scr x => simp only [q] at p; exact p.elim
        | opq x => simp only [q] at p; exact p.elim
        | fn x => simp only [q] at p; exact p.elim
end
end DL

set_option Elab.async false
set_option linter.all false
set_option maxRecDepth 100000
set_option maxHeartbeats 4000000
/-! DL10: stores by index, while, comprehensions, defs and their calls. -/
namespace DL
open PySem PySem.Spec PyProof.Rows L2

/-! ### o[i] = e, o a name -/
def putI (env : Env) (S : Store) (i : Nat) (k : Int) (d : PyData) : RS := match env[i]? with
  | some (some (.own xs)) => match ixN xs.length k with
    | some j => .next (env.set i (some (.own (xs.set j d)))) S
    | none => .stuck
  | some (some (.ref l)) => match S[l]? with
    | some (.lst xs) => match ixN xs.length k with
      | some j => .next env (S.set l (.lst (xs.set j d)))
      | none => .stuck
    | _ => .stuck
  | _ => .stuck
def kPut (env : Env) (i : Nat) (d : PyData) (y : EV) (S : Store) : RS := match y with
  | .d (.int k) => putI env S i k d
  | _ => .stuck
def setS (i : Nat) (fi fv : DE) : DS := fun env S => (fv env S).bindS env fun x S1 => match x.fixed, env[i]? with
  | some (.d d), some (some _) => (fi env S1).bindS env fun y S2 => kPut env i d y S2
  | _, _ => .stuck
section
variable {X : Cx} {ca : Str → Addr} {W : WX} {e ix : Expr} {f fi fv : DE}
theorem put_ok {K : PySem.W.Frag} {z : Ses} {F H : Hp} {ρ : List Addr} {S : Store} {env : Env} {σ : L2.St} {D : Ends} {i : Nat} {k : Int} {d : PyData} {v : V} (s : SimS K ca z F ρ S env σ H) (r : Dr K F v d) (p : PostS K ca W z F D (putI env S i k d)) :
    ∃ o, σ[i]? = some (some o) ∧ rSetL o (.int k) v H fun H1 => D.nx σ H1 := by
  unfold putI at p
  cases q : env[i]? with
  | none => simp only [q] at p; exact p.elim
  | some o =>
    cases o with
    | none => simp only [q] at p; exact p.elim
    | some ev =>
      obtain ⟨w, e1, r0⟩ := s.sim.slot i ev q
      refine ⟨w, e1, ?_⟩
      cases ev with
      | own xs =>
        simp only [q] at p
        obtain ⟨a, ws, r1, r2, r3, r4, r5, r6⟩ := r0
        subst r1
        cases q2 : ixN xs.length k with
        | none => simp only [q2] at p; exact p.elim
        | some j =>
          simp only [q2] at p
          exact ⟨a, ws, k, j, rfl, rfl, r3, by rw [r6.length]; exact q2, p σ F _ ρ (Same.refl _) (s.mutOwn q e1 (r6.set r j))⟩
      | ref l =>
        simp only [q] at p
        obtain ⟨a, r1, r2⟩ := r0
        subst r1
        cases q3 : S[l]? with
        | none => simp only [q3] at p; exact p.elim
        | some c =>
          cases c with
          | obj cn fs => simp only [q3] at p; exact p.elim
          | lst xs =>
            simp only [q3] at p
            obtain ⟨ws, t3, t6⟩ := s.sim.cell l a _ r2 q3
            cases q2 : ixN xs.length k with
            | none => simp only [q2] at p; exact p.elim
            | some j =>
              simp only [q2] at p
              exact ⟨a, ws, k, j, rfl, rfl, t3, by rw [t6.length]; exact q2, p σ F _ ρ (Same.refl _) (s.mutCell r2 (t6.set r j))⟩
      | d x => simp only [q] at p; exact p.elim
      | bor x => simp only [q] at p; exact p.elim
      | borD x => simp only [q] at p; exact p.elim
      | ownD x => simp only [q] at p; exact p.elim
      | scr x => simp only [q] at p; exact p.elim
      | opq x => simp only [q] at p; exact p.elim
      | fn x => simp only [q] at p; exact p.elim
theorem js_put {i : Nat} {x : Str} {p p2 pos : Pos} (hN : X.N[i]? = some x) (hv : Vis X.env.scope x) (he : JE X ca W e fv) (hi : JE X ca W ix fi) (hd : (x == ("__debug__" : Str)) = false := by decide) (hcd : (x == ("__classdict__" : Str)) = false := by decide)
    (ha : ∀ v, assign (.Subscript (.Name x p) ix p2) X.env v = (do
      let ov ← holding [v] (eval (.Name x p) X.env)
      let iv ← holding [v, ov] (eval ix X.env)
      standAt p2
      holding [v, ov, iv] (setItem ov iv v)
      release [v, ov, iv] []) := by intro _; rfl)
    (hs : swapsWithSole [.Subscript (.Name x p) ix p2] e pos.line X.env = pure false := by rfl) (hw : swappedStores [.Subscript (.Name x p) ix p2] e X.env = pure none := by rfl)
    (h1 : (assignEach [.Subscript (.Name x p) ix p2] X.env).map (·.2) = [assign (.Subscript (.Name x p) ix p2) X.env] := by rfl) :
    JS X ca W (.Assign [.Subscript (.Name x p) ix p2] e pos) (setS i fi fv) := fun z =>
  imp_s (ps_asg he (pg_sub (pe_var hN hv hd hcd) hi set_list ha) hs hw h1) fun D σ H ⟨F, ρ, S, env, s, p⟩ =>
    ts1 (D := D) s p fun x S1 v F1 H1 ρ1 n s1 r p1 => by
      cases q : x.fixed with
      | none => simp only [q] at p1; exact p1.elim
      | some x' =>
        cases x' with
        | d d =>
          cases he : env[i]? with
          | none => simp only [q, he] at p1; exact p1.elim
          | some oe =>
          cases oe with
          | none => simp only [q, he] at p1; exact p1.elim
          | some ev =>
          simp only [q, he] at p1
          obtain ⟨F2, s2, sm, rr⟩ := s.fixed n r q
          obtain ⟨w, e1, r0⟩ := s2.sim.slot i ev he
          refine ⟨w, e1, ts1 (D := D) s2 (p1.mono sm) fun y S2 v2 F3 H3 ρ3 n3 s3 r3 p3 => ?_⟩
          cases y with
          | d y =>
            cases y with
            | int k =>
              cases r3
              obtain ⟨o, e2, q2⟩ := put_ok s3 (Dr.mono n3.stp.fz rr) p3
              rw [e1] at e2
              cases e2
              exact q2
            | _ => exact p3.elim
          | _ => exact p3.elim
        | _ => simp only [q] at p1; exact p1.elim
end

/-! ### found.append(left.pop(e)) -/
def appPop (i j : Nat) (f : DE) : DS := fun env S => match env[i]?, env[j]? with
  | some (some (.own xs)), some (some (.own ys)) => (f env S).bindS env fun x S1 => match x with
    | .d (.int k) => match ixN ys.length k with
      | some m => match ys[m]? with
        | some y => if xs.length < LIM ∧ i ≠ j ∧ k < 2 ^ 63 ∧ -(2 ^ 63) ≤ k then .next ((env.set j (some (.own (ys.eraseIdx m)))).set i (some (.own (xs ++ [y])))) S1 else .stuck
        | none => .stuck
      | none => .stuck
    | _ => .stuck
  | _, _ => .stuck
theorem ixN_ix {n : Nat} {i : Int} {j : Nat} (h : ixN n i = some j) : seqIndex? i n = some j := (ixN_seq h).1
section
variable {X : Cx} {ca : Str → Addr} {W : WX} {e : Expr} {f : DE}
theorem js_appPop {i j : Nat} {x y : Str} {p p2 apos apos2 cpos cpos2 pos : Pos} (hN : X.N[i]? = some x) (hv : Vis X.env.scope x) (hN2 : X.N[j]? = some y) (hv2 : Vis X.env.scope y) (h : JE X ca W e f) (hd : (x == ("__debug__" : Str)) = false := by decide) (hcd : (x == ("__classdict__" : Str)) = false := by decide)
    (hd2 : (y == ("__debug__" : Str)) = false := by decide) (hcd2 : (y == ("__classdict__" : Str)) = false := by decide)
    (hbase : attributeBase (.Name x p) "append" X.env (eval (.Name x p) X.env) = eval (.Name x p) X.env := by rfl)
    (hbase2 : attributeBase (.Name y p2) "pop" X.env (eval (.Name y p2) X.env) = eval (.Name y p2) X.env := by rfl)
    (hfew : ((backTo cpos (starEach [.Call (.Attribute (.Name y p2) "pop" apos2) [e] [] cpos2] X.env)).all (fun x => !x.1) && (backToKw cpos (keywordEach [] X.env)).all (fun x => x.1.isSome) && decide ([Expr.Call (.Attribute (.Name y p2) "pop" apos2) [e] [] cpos2].length + ([] : List Keyword).length + (if ([] : List Keyword).isEmpty then 0 else 1) < 30)) = true := by rfl)
    (hfew2 : ((backTo cpos2 (starEach [e] X.env)).all (fun x => !x.1) && (backToKw cpos2 (keywordEach [] X.env)).all (fun x => x.1.isSome) && decide ([e].length + ([] : List Keyword).length + (if ([] : List Keyword).isEmpty then 0 else 1) < 30)) = true := by rfl)
    (hline : (apos.endLine == cpos.line) = true := by rfl) (hline2 : (apos2.endLine == cpos2.line) = true := by rfl)
    (hs : starEach [.Call (.Attribute (.Name y p2) "pop" apos2) [e] [] cpos2] X.env = (false, eval (.Call (.Attribute (.Name y p2) "pop" apos2) [e] [] cpos2) X.env) :: starEach [] X.env := by rfl) (hs2 : starEach [e] X.env = (false, eval e X.env) :: starEach [] X.env := by rfl)
    (hsw : swapsWith (.Call (.Attribute (.Name x p) "append" apos) [.Call (.Attribute (.Name y p2) "pop" apos2) [e] [] cpos2] [] cpos) none pos.line X.env = pure false := by rfl) :
    JS X ca W (.Expr (.Call (.Attribute (.Name x p) "append" apos) [.Call (.Attribute (.Name y p2) "pop" apos2) [e] [] cpos2] [] cpos) pos) (appPop i j f) := fun z =>
  imp_s (ps_expr (pe_bm PySem.F.plainAttrs_list PySem.F.slot_list_append PySem.F.type_list_append mt_append (pe_var hN hv hd hcd)
    (pa_cons (pe_bm PySem.F.plainAttrs_list PySem.F.slot_list_pop PySem.F.type_list_pop mt_popAt (pe_var hN2 hv2 hd2 hcd2) (pa_cons h pa_nil hs2) hbase2 hfew2 hline2 hs2) pa_nil hs) hbase hfew hline hs) hsw) fun D σ H ⟨F, ρ, S, env, s, p⟩ => by
    have hL := lim_eq
    unfold appPop at p
    split at p
    · rename_i xs ys q1 q2
      obtain ⟨w1, e1, a, ws, r1, r2, r3, r4, r5, r6⟩ := s.sim.slot i _ q1
      obtain ⟨w2, e2, b, us, t1, t2, t3, t4, t5, t6⟩ := s.sim.slot j _ q2
      subst r1 t1
      refine ⟨_, e1, .inl ⟨rfl, ws, SqL.of r3⟩, _, e2, .inl ⟨rfl, us, SqL.of t3⟩, ts1 (D := D) s p fun v S1 vv F1 H1 ρ1 n s1 r p1 => ?_⟩
      split at p1
      · rename_i k
        cases r
        split at p1
        · rename_i m hm
          split at p1
          · rename_i y hy
            split at p1
            · rename_i hc
              obtain ⟨hc1, hc2, hc3, hc4⟩ := hc
              have a3 := n.stp.fr _ _ r5 r3
              have b3 := n.stp.fr _ _ t5 t3
              have a6 := r6.mono n.stp.fz
              have b6 := t6.mono n.stp.fz
              obtain ⟨u, hu, ru⟩ := b6.get hy
              have hab : a ≠ b := fun z => hc2 (s.sim.ownD i j _ _ a q1 q2 rfl rfl e1 (by rw [z]; exact e2))
              refine ⟨b, us, k, m, u, rfl, rfl, b3, hc4, hc3, by rw [b6.length]; exact ixN_ix hm, hu, ?_⟩
              refine ⟨a, ws, u, rfl, rfl, by rw [upd_ne hab]; exact a3, by rw [a6.length]; omega, ?_⟩
              have s2 := s1.mutOwn q2 e2 (b6.eraseIdx m)
              have q1' : (env.set j (some (.own (ys.eraseIdx m))))[i]? = some (some (.own xs)) := by
                rw [List.getElem?_set_ne (Ne.symm hc2)]
                exact q1
              exact p1 σ F1 _ ρ1 (Same.refl _) (s2.mutOwn q1' e1 (a6.append (.cons ru .nil)))
            · exact p1.elim
          · exact p1.elim
        · exact p1.elim
      · exact p1.elim
    · exact p.elim
end

/-! ### x, y = e1, e2 (plain locals): both sides are had ahead -/
def parO (i j : Nat) (f g : DE) : DS := fun env S => (f env S).bindS env fun x S1 => (g env S1).bindS env fun y S2 => match x.kept, y.kept with
  | some a, some b => if i ≠ j then .next ((env.set i (some a)).set j (some b)) S2 else .stuck
  | _, _ => .stuck
section
variable {X : Cx} {ca : Str → Addr} {W : WX} {a b c : Expr} {f g k : DE}
theorem kept_rep {K : PySem.W.Frag} {F B H : Hp} {ρ : List Addr} {env : Env} {σ : L2.St} {v : V} {x x' : EV} (q : x.kept = some x') (r : RepE K F ρ B env σ H v x) : RepV K F ρ B H v x' := by
  cases x <;> cases q <;> exact r
theorem js_par {i j : Nat} {x y : Str} {px py pt pos : Pos} {kt k2 pt2} (hc : X.calm = true) (hN : X.N.Nodup) (hi : X.N[i]? = some x) (hj : X.N[j]? = some y) (hij : i ≠ j)
    (hx : X.env.scope.names.lookup x = some .local) (hy : X.env.scope.names.lookup y = some .local) (ha : JE X ca W a f) (hb : JE X ca W b g)
    (hw : swappedStores [.Tuple [.Name x px, .Name y py] kt pt] (.Tuple [a, b] k2 pt2) X.env = pure (some [x, y]))
    (hs : swapsWithSole [.Tuple [.Name x px, .Name y py] kt pt] (.Tuple [a, b] k2 pt2) pos.line X.env = pure false := by rfl) (hs1 : starEach [a, b] X.env = (false, eval a X.env) :: starEach [b] X.env := by rfl) (hs2 : starEach [b] X.env = (false, eval b X.env) :: starEach [] X.env := by rfl) :
    JS X ca W (.Assign [.Tuple [.Name x px, .Name y py] kt pt] (.Tuple [a, b] k2 pt2) pos) (parO i j f g) := fun z =>
  imp_s (ps_par hc hN hi hj hij hx hy (pa_cons ha (pa_cons hb pa_nil hs2) hs1) hw hs) fun D σ H ⟨F, ρ, S, env, s, p⟩ =>
    ts1 (D := D) s p fun x S1 v F1 H1 ρ1 n s1 r p1 => ts1 (D := D) s1 p1 fun y S2 w F2 H2 ρ2 n2 s2 r2 p2 => by
      cases q1 : x.kept with
      | none => simp only [q1] at p2; exact p2.elim
      | some x' =>
        cases q2 : y.kept with
        | none => simp only [q1, q2] at p2; exact p2.elim
        | some y' =>
          simp only [q1, q2] at p2
          rw [if_pos hij] at p2
          refine ⟨v, w, rfl, ?_⟩
          have rx := kept_rep q1 r
          have ry := kept_rep q2 r2
          have rx2 := rx.step n2.stp
          have t1 := s2.setSlot i (rx2.base s.stp.mono) fun o k ek _ e1 o1 => fresh_slot s.sim rx2 o k ek e1 o1
          refine p2 _ F2 H2 ρ2 (Same.refl _) (t1.setSlot j (ry.base s1.stp.mono) fun o k ek hk e1 o1 e2 => ?_)
          rcases get_set e1 with ⟨rfl, hl, e1⟩ | ⟨hk2, e1⟩
          · -- slot i: x itself
            have ev : x' = ek := Option.some.inj e1
            subst ev
            rcases get_set e2 with ⟨_, _, e2⟩ | ⟨hn, _⟩
            · have vw : v = w := Option.some.inj e2
              subst vw
              have old : ∀ a, v = .ref a → H1 a ≠ none := fun a hv => by
                cases x' with
                | own xs =>
                  obtain ⟨b, vs, t1, t2, t3, _⟩ := rx
                  rw [hv] at t1
                  cases t1
                  rw [t3]
                  exact fun z => nomatch z
                | ownD xs =>
                  obtain ⟨b, vs, t1, t2, t3, _⟩ := rx
                  rw [hv] at t1
                  cases t1
                  rw [t3]
                  exact fun z => nomatch z
                | _ => cases o1
              cases y' with
              | own xs =>
                obtain ⟨b, vs, t1, t2, t3, _⟩ := ry
                exact old b t1 t2
              | ownD xs =>
                obtain ⟨b, vs, t1, t2, t3, _⟩ := ry
                exact old b t1 t2
              | _ => cases o
            · exact hn rfl
          · rcases get_set e2 with ⟨hn, _, _⟩ | ⟨_, e2⟩
            · exact hk2 hn
            · exact fresh_slot s1.sim ry o k ek e1 o1 e2
end

/-! ### while -/
def whD (t : DE) (body : DS) : Nat → DS
  | 0 => fun _ _ => .stuck
  | n + 1 => fun env S => (t env S).bindBS env fun b S1 => if b = true then (match body env S1 with
      | .next env' S' => whD t body n env' S'
      | .cont env' S' => whD t body n env' S'
      | .brk env' S' => .next env' S'
      | .ret v S' => .ret v S'
      | .raise e env' S' => .raise e env' S'
      | .stuck => .stuck) else .next env S1
theorem js_while {X : Cx} {ca : Str → Addr} {W : WX} {c : Expr} {body : List Stmt} {f : DE} {g : DS} {pos : Pos} (N : Nat) (hp : PassesOwn (model X.prog X.w) X.A X.env X.xe) (hc : JT X ca W c f) (hb : JSs X ca W body g) : JS X ca W (.While c body [] pos) (whD f g N) := fun z =>
  imp_s (ps_while hp hc (hb z)) fun D σ H ⟨F, ρ, S, env, s, p⟩ => by
    refine ⟨fun m σ H => ∃ F' ρ' S' env', SimS X.K ca z F' ρ' S' env' σ H ∧ PostS X.K ca W z F' D (whD f g m env' S'), ⟨N, F, ρ, S, env, s, p⟩, ?_⟩
    rintro m σ2 H2 ⟨F2, ρ2, S2, env2, s2, p2⟩
    cases m with
    | zero => exact p2.elim
    | succ m =>
      refine ts1T (D := D) s2 p2 fun b S3 F3 H3 ρ3 s3 p3 => ?_
      cases b with
      | false =>
        rw [if_neg Bool.false_ne_true] at p3 ⊢
        exact p3 σ2 F3 H3 ρ3 (Same.refl _) s3
      | true =>
        rw [if_pos rfl] at p3 ⊢
        refine ⟨fun σ' H' => ∃ F' ρ' S' env', SimS X.K ca z F' ρ' S' env' σ' H' ∧ PostS X.K ca W z F' D (whD f g m env' S'), fun σ' H' h => ⟨m, Nat.lt_succ_self m, h⟩, F3, ρ3, S3, env2, s3, ?_⟩
        revert p3
        cases q : g env2 S3 with
        | next env' S' => exact fun p3 σ' F' H' ρ' f' s' => ⟨F', ρ', S', env', s', p3.mono f'⟩
        | cont env' S' => exact fun p3 σ' F' H' ρ' f' s' => ⟨F', ρ', S', env', s', p3.mono f'⟩
        | brk env' S' => exact fun p3 => p3
        | ret v S' => exact fun p3 => p3
        | raise e env' S' => exact fun p3 => p3
        | stuck => exact fun p3 => p3

/-! ### [elt for tg in iter if test] -/
def wipeE (env : Env) : List Nat → Env
  | [] => env
  | v :: vs => (wipeE env vs).set v none
def tstD : Option DE → DE
  | none => fun _ S => .ok (bE true) S
  | some f => f
def lcD (t : DG) (test : Option DE) (elt : DE) (env : Env) : List PyData → List PyData → Store → RE
  | [], acc, S => .ok (.own acc) S
  | d :: ds, acc, S => match t (.d d) env with
    | none => .stuck
    | some env1 => match tstD test env1 S with
      | .ok (.d (.bool true)) S1 => match elt env1 S1 with
        | .ok x S2 => match x.fixed with
          | some (.d y) => if acc.length < LIM then lcD t test elt env ds (acc ++ [y]) S2 else .stuck
          | _ => .stuck
        | _ => .stuck
      | .ok (.d (.bool false)) S1 => lcD t test elt env ds acc S1
      | _ => .stuck
def lcE (f : DE) (vs : List Nat) (t : DG) (test : Option DE) (elt : DE) : DE := fun env S => (f env S).bind fun x S1 => match x with
  | .d (.list xs) => lcD t test elt (wipeE env vs) xs [] S1
  | _ => .stuck
abbrev W0 : WX := fun _ _ _ _ => False
def tTest1 (K : PySem.W.Frag) (ca : Str → Addr) : Option DE → TT
  | none => tYes
  | some f => dTT K ca W0 f
section
variable {K : PySem.W.Frag} {ca : Str → Addr} {W : WX} {H0 F H F' H' F1 H1 F2 H2 B : Hp} {ρ ρ' ρ1 ρ2 : List Addr} {S S' S1 S2 : Store} {env : Env} {σ : L2.St} {v : V} {ev : EV} {Q : VK}
/-- what was so ahead of a step is so behind it -/
theorem Sim.after {env' : Env} {σ' : L2.St} {A : Hp} (s : Sim K ca H0 F ρ S env σ H) (t : Stp F H ρ F' H' ρ') (s' : Sim K ca A F' ρ' S' env' σ' H') : Sim K ca H0 F' ρ' S' env σ H' :=
  ⟨s'.fz, s'.len, s'.nd, s'.rfz, s'.cell, s.lenE, fun i ev e => by
    obtain ⟨v, e1, r⟩ := s.slot i ev e
    exact ⟨v, e1, r.step t⟩, s.ownD⟩
theorem wipeE_len (env : Env) : ∀ vs, (wipeE env vs).length = env.length
  | [] => rfl
  | v :: vs => by unfold wipeE; rw [List.length_set, wipeE_len env vs]
theorem Sim.wiped (s : Sim K ca H0 F ρ S env σ H) : ∀ vs, Sim K ca H0 F ρ S (wipeE env vs) (wipe σ vs) H
  | [] => s
  | v :: vs => by
    have ih := s.wiped vs
    unfold wipeE wipe
    refine ⟨ih.fz, ih.len, ih.nd, ih.rfz, ih.cell, by rw [List.length_set, List.length_set]; exact ih.lenE, fun j ej e => ?_, fun j k ej ek a e1 e2 o1 o2 e3 e4 => ?_⟩
    · rcases get_set e with ⟨_, _, e⟩ | ⟨hj, e⟩
      · cases e
      · obtain ⟨w, q1, q2⟩ := ih.slot j ej e
        exact ⟨w, by rw [List.getElem?_set_ne (Ne.symm hj)]; exact q1, q2⟩
    · rcases get_set e1 with ⟨_, _, e1⟩ | ⟨hj, e1⟩
      · cases e1
      · rcases get_set e2 with ⟨_, _, e2⟩ | ⟨hk, e2⟩
        · cases e2
        · rcases get_set e3 with ⟨_, _, e3⟩ | ⟨_, e3⟩
          · cases e3
          · rcases get_set e4 with ⟨_, _, e4⟩ | ⟨_, e4⟩
            · cases e4
            · exact ih.ownD j k ej ek a e1 e2 o1 o2 e3 e4
/-- a state behind a step of its own, from the start -/
theorem lc_go {J : It} {tg : DG} {is : List Nat} {test : Option DE} {elt : DE} {xs : List PyData}
    (n : Now K ca H0 env σ F H ρ F1 H1 ρ1 S1) (s0 : Sim K ca H0 F ρ S env σ H) (dj : DItems K J F1 xs) (p : PostE K ca W H0 env σ F H ρ Q (lcD tg test elt (wipeE env is) xs [] S1)) (D : Addr) (hD : H1 D = none) :
    ∃ Wv : Nat → Nat → Hp → Prop, (∃ m, Wv 0 m (upd H1 D (.lst []))) ∧ ∀ i m H, Wv i m H →
      (J.stop i H ∧ Q (.ref D) H) ∨ (J.go i H ∧ ∃ Nx : Hp → Prop, (∀ H', Nx H' → ∃ m', m' < m ∧ Wv (i + 1) m' H') ∧ ∀ x H', J.yld i H x H' → gD K ca tg is x (wipe σ is) H' fun σ2 H2 => wipe σ2 is = wipe σ is ∧ tTest1 K ca test σ2 H2 fun b H3 =>
        if b = true then dTE K ca W0 elt σ2 H3 fun y H4 => ∃ acc, H4 D = some (.lst acc) ∧ acc.length < sizeLine ∧ Nx (upd H4 D (.lst (acc ++ [y]))) else Nx H3) := by
  have hL := lim_eq
  have hDF := n.sim.unfz hD
  have hDr := n.sim.notin hD
  -- the invariant
  let Inv' : Nat → Hp → Prop := fun i Hc => ∃ F' ρ' S' acc ws, Stp F1 H1 ρ1 F' Hc ρ' ∧ Sim K ca H0 F' ρ' S' env σ Hc ∧ Hc D = some (.lst ws) ∧ DrAll K F' ws acc ∧ F' D = none ∧ D ∉ ρ' ∧ PostE K ca W H0 env σ F H ρ Q (lcD tg test elt (wipeE env is) (xs.drop i) acc S')
  have notOwn : ∀ (i : Nat) (ev : EV), env[i]? = some (some ev) → ev.isOwn = true → σ[i]? ≠ some (some (.ref D)) := fun i ev e1 e2 e3 => (n.sim.own_at e1 e2 e3).2.2.2 hD
  refine ⟨fun i m Hc => m = xs.length - i ∧ i ≤ xs.length ∧ Inv' i Hc, ⟨xs.length, by simp, Nat.zero_le _, F1, ρ1, S1, [], [], Stp.alloc hD, n.sim.alloc hD, upd_same, .nil, hDF, hDr, by simpa using p⟩, ?_⟩
  rintro i m Hc ⟨rfl, hi, F2, ρ2, S2, acc, ws, st2, s2, hd2, da2, df2, dr2, p2⟩
  have dj2 := dj.on st2.fz
  by_cases hlt : i < xs.length
  · refine .inr ⟨dj2.go F2 Hc i (Same.refl _) s2.fz hlt, fun Hn => Inv' (i + 1) Hn, fun Hn h => ⟨xs.length - (i + 1), by omega, rfl, hlt, h⟩, fun x H3 y => ?_⟩
    have hd : xs[i]? = some xs[i] := List.getElem?_eq_getElem hlt
    have ed : xs.drop i = xs[i] :: xs.drop (i + 1) := List.drop_eq_getElem_cons hlt
    rw [ed] at p2
    -- the turn's item
    obtain ⟨F3, st3, s3, r3⟩ : ∃ F3, Stp F2 Hc ρ2 F3 H3 ρ2 ∧ Sim K ca H0 F3 ρ2 S2 env σ H3 ∧ Dr K F3 x xs[i] := by
      rcases dj2.yld F2 Hc i x H3 _ (Same.refl _) s2.fz hd y with ⟨e, r⟩ | ⟨T, vs, ds, e1, e2, e3, e4, r⟩
      · subst e
        exact ⟨F2, Stp.refl _ _ _, s2, r⟩
      · subst e2 e3
        have n3 : Now K ca H0 env σ F2 Hc ρ2 F2 Hc ρ2 S2 := ⟨Stp.refl _ _ _, s2⟩
        have n4 := n3.newT (vs := vs) e1
        have hF := s2.unfz e1
        refine ⟨_, n4.stp, n4.sim, ?_⟩
        rw [e4]
        exact .tup (.inl (.inl upd_same)) (r.mono (same_fix hF))
    unfold lcD at p2
    cases q : tg (.d xs[i]) (wipeE env is) with
    | none => simp only [q] at p2; exact p2.elim
    | some env3 =>
      simp only [q] at p2
      refine ⟨H0, F3, ρ2, S2, _, .d xs[i], env3, s3.wiped is, r3, rfl, q, fun σ4 s4 w4 => ⟨w4.trans wipe_wipe, ?_⟩⟩
      -- what is so behind a further step
      have onward : ∀ (F4 H4 : Hp) (ρ4 : List Addr) (S4 : Store) (A : Hp) (env' : Env) (σ' : L2.St), Stp F3 H3 ρ2 F4 H4 ρ4 → Sim K ca A F4 ρ4 S4 env' σ' H4 →
          Stp F1 H1 ρ1 F4 H4 ρ4 ∧ Sim K ca H0 F4 ρ4 S4 env σ H4 ∧ H4 D = some (.lst ws) ∧ DrAll K F4 ws acc ∧ F4 D = none ∧ D ∉ ρ4 := fun F4 H4 ρ4 S4 A env' σ' st4 s4' => by
        have t := st3.trans st4
        exact ⟨(st2.trans t), s2.after t s4', t.fr _ _ dr2 hd2, da2.mono t.fz, t.unfz df2 hd2, t.notin dr2 hd2⟩
      have elts : ∀ (F4 H4 : Hp) (ρ4 : List Addr) (S4 : Store), Stp F3 H3 ρ2 F4 H4 ρ4 → Sim K ca H0 F4 ρ4 S4 env3 σ4 H4 →
          PostE K ca W H0 env σ F H ρ Q (match elt env3 S4 with
            | .ok x S2 => match x.fixed with
              | some (.d y) => if acc.length < LIM then lcD tg test elt (wipeE env is) (xs.drop (i + 1)) (acc ++ [y]) S2 else .stuck
              | _ => .stuck
            | _ => .stuck) → dTE K ca W0 elt σ4 H4 fun y H5 => ∃ acc, H5 D = some (.lst acc) ∧ acc.length < sizeLine ∧ Inv' (i + 1) (upd H5 D (.lst (acc ++ [y]))) := fun F4 H4 ρ4 S4 st4 s4' p4 => by
        refine ⟨H0, F4, ρ4, S4, env3, s4', ?_⟩
        cases q5 : elt env3 S4 with
        | raise e S5 => simp only [q5] at p4; exact p4.elim
        | stuck => simp only [q5] at p4; exact p4.elim
        | ok z S5 =>
          simp only [q5] at p4
          intro u F5 H5 ρ5 n5 r5
          cases q6 : z.fixed with
          | none => simp only [q6] at p4; exact p4.elim
          | some z' =>
            cases z' with
            | d y =>
              simp only [q6] at p4
              by_cases hl : acc.length < LIM
              · rw [if_pos hl] at p4
                obtain ⟨F6, n6, sm6, r6⟩ := n5.fixed s4'.old r5 q6
                obtain ⟨k1, k2, k3, k4, k5, k6⟩ := onward F6 H5 ρ5 S5 _ _ _ (st4.trans n6.stp) n6.sim
                refine ⟨ws, k3, by rw [k4.length]; omega, F6, ρ5, S5, acc ++ [y], ws ++ [u], ?_, ?_, upd_same, k4.append (.cons r6 .nil), k5, k6, p4⟩
                · refine ⟨k1.fz, k1.nfz, k1.rho, fun b o h1 h2 => ?_, fun b hb => ?_⟩
                  · have : b ≠ D := fun e => by rw [e, hD] at h2; cases h2
                    rw [upd_ne this]
                    exact k1.fr b o h1 h2
                  · by_cases e : b = D
                    · rw [e]; exact hD
                    · rw [upd_ne e] at hb
                      exact k1.mono b hb
                · refine k2.of (Same.refl _) (fun b o hb => ?_) (fun b hb => ⟨k2.rfz b hb, fun o ho => ?_⟩) fun j ev b e1 e2 e3 => ⟨(k2.own_at e1 e2 e3).1, fun o ho => ?_⟩
                  · have : b ≠ D := fun e => by rw [e, k5] at hb; cases hb
                    rw [upd_ne this]
                    exact k2.fz _ _ hb
                  · have : b ≠ D := fun e => k6 (by rw [← e]; exact hb)
                    rw [upd_ne this]
                    exact ho
                  · have : b ≠ D := fun e => notOwn j ev e1 e2 (by rw [← e]; exact e3)
                    rw [upd_ne this]
                    exact ho
              · rw [if_neg hl] at p4
                exact p4.elim
            | _ => simp only [q6] at p4; exact p4.elim
      have stop : ∀ (F4 H4 : Hp) (ρ4 : List Addr) (S4 : Store), Stp F3 H3 ρ2 F4 H4 ρ4 → Sim K ca H0 F4 ρ4 S4 env3 σ4 H4 → PostE K ca W H0 env σ F H ρ Q (lcD tg test elt (wipeE env is) (xs.drop (i + 1)) acc S4) → Inv' (i + 1) H4 := fun F4 H4 ρ4 S4 st4 s4' p4 => by
        obtain ⟨k1, k2, k3, k4, k5, k6⟩ := onward F4 H4 ρ4 S4 _ _ _ st4 s4'
        exact ⟨F4, ρ4, S4, acc, ws, k1, k2, k3, k4, k5, k6, p4⟩
      cases test with
      | none =>
        simp only [tstD, bE] at p2
        exact iteT (A := dTE K ca W0 elt σ4 H3 fun y H5 => ∃ acc, H5 D = some (.lst acc) ∧ acc.length < sizeLine ∧ Inv' (i + 1) (upd H5 D (.lst (acc ++ [y])))) (B := Inv' (i + 1) H3) (elts F3 H3 ρ2 S2 (Stp.refl _ _ _) s4 p2)
      | some f =>
        refine ⟨H0, F3, ρ2, S2, env3, s4, ?_⟩
        simp only [tstD] at p2
        revert p2
        cases q4 : f env3 S2 with
        | raise e S4 => exact fun p2 => p2.elim
        | stuck => exact fun p2 => p2.elim
        | ok b S4 =>
          cases b with
          | d b =>
            cases b with
            | bool b =>
              cases b with
              | true =>
                intro p2 F4 H4 ρ4 n4
                rw [if_pos rfl]
                exact elts F4 H4 ρ4 S4 n4.stp n4.sim p2
              | false =>
                intro p2 F4 H4 ρ4 n4
                rw [if_neg Bool.false_ne_true]
                exact stop F4 H4 ρ4 S4 n4.stp n4.sim p2
            | _ => exact fun p2 => p2.elim
          | _ => exact fun p2 => p2.elim
  · have e : i = xs.length := by omega
    subst e
    rw [List.drop_length] at p2
    unfold lcD at p2
    refine .inl ⟨dj2.stop F2 Hc _ (Same.refl _) s2.fz (Nat.le_refl _), p2 (.ref D) F2 Hc ρ2 ⟨n.stp.trans st2, s2⟩ ⟨D, ws, rfl, n.stp.mono D hD, hd2, df2, dr2, da2⟩⟩
end
end DL

set_option Elab.async false
set_option linter.all false
set_option maxRecDepth 100000
set_option maxHeartbeats 4000000
/-! DL11: comprehensions, defs and their calls. -/
namespace DL
open PySem PySem.Spec PyProof.Rows L2

section
variable {X : Cx} {ca : Str → Addr} {W : WX}
theorem te_lc {K : PySem.W.Frag} {f : DE} {is : List Nat} {t : DG} {test : Option DE} {elt : DE} {σ : L2.St} {H : Hp} {Q : VK} (h : dTE K ca W (lcE f is t test elt) σ H Q) : tLc (dTI K ca W f) (gD K ca t is) (tTest1 K ca test) (dTE K ca W0 elt) is σ H Q := by
  obtain ⟨H0, F, ρ, S, env, s, p⟩ := h
  refine ⟨H0, F, ρ, S, env, s, ?_⟩
  have p' : PostE K ca W H0 env σ F H ρ Q ((f env S).bind fun x S1 => match x with
    | .d (.list xs) => lcD t test elt (wipeE env is) xs [] S1
    | _ => .stuck) := p
  clear p
  revert p'
  cases q : f env S with
  | ok x S1 =>
    cases x with
    | d y =>
      cases y with
      | list xs => exact fun p F1 H1 ρ1 J n dj D hD => lc_go n s dj p D hD
      | _ => exact fun p => p.elim
    | _ => exact fun p => p.elim
  | raise e S1 => exact fun p => p
  | stuck => exact fun p => p.elim
theorem je_lc {elt tg iter : Expr} {ifs : List Expr} {scope : Scope} {own : List (Str × Nat)} {pos : Pos} {f fe : DE} {t : DG} {test : Option DE} (hc : X.calm = true) (hN : X.N.Nodup) (hi : JI X ca W tg iter f) (ok : BlkOk X.N X.env.scope scope own)
    (hg : ∀ (s : Shared) (H : Hp) (C : Addr) (cl : List (Str × Addr)) (fp : List Addr), JG (X.blk s H scope (compEnvC scope cl C X.env) fp) ca tg t (own.map (·.2)))
    (ht : ∀ (s : Shared) (H : Hp) (C : Addr) (cl : List (Str × Addr)) (fp : List Addr), PTs (X.blk s H scope (compEnvC scope cl C X.env) fp) ifs (tTest1 X.K ca test))
    (he : ∀ (s : Shared) (H : Hp) (C : Addr) (cl : List (Str × Addr)) (fp : List Addr), JE (X.blk s H scope (compEnvC scope cl C X.env) fp) ca W0 elt fe) (hs : ∀ x, foldedSetIterable iter X.env x = pure x := by intro _; rfl) :
    JE X ca W (.ListComp elt [⟨tg, iter, ifs, 0⟩] scope pos) (lcE f (own.map (·.2)) t test fe) := imp_e (pe_lc hc hN hi ok hg ht he hs) fun σ H Q h => te_lc h
/-- name = [..], the name a plain local, on one line -/
theorem js_setLc {i : Nat} {y : Str} {py : Pos} {elt tg iter : Expr} {ifs : List Expr} {scope : Scope} {own : List (Str × Nat)} {pos spos : Pos} {f fe : DE} {t : DG} {test : Option DE} (hc : X.calm = true) (hN : X.N.Nodup) (hy : X.N[i]? = some y) (hyl : X.env.scope.names.lookup y = some .local)
    (hsw : swapsWith (.ListComp elt [⟨tg, iter, ifs, 0⟩] scope pos) (some (.Name y py)) spos.line X.env = pure true) (hi : JI X ca W tg iter f) (ok : BlkOk X.N X.env.scope scope own)
    (hg : ∀ (s : Shared) (H : Hp) (C : Addr) (cl : List (Str × Addr)) (fp : List Addr), JG (X.blk s H scope (compEnvC scope cl C X.env) fp) ca tg t (own.map (·.2)))
    (ht : ∀ (s : Shared) (H : Hp) (C : Addr) (cl : List (Str × Addr)) (fp : List Addr), PTs (X.blk s H scope (compEnvC scope cl C X.env) fp) ifs (tTest1 X.K ca test))
    (he : ∀ (s : Shared) (H : Hp) (C : Addr) (cl : List (Str × Addr)) (fp : List Addr), JE (X.blk s H scope (compEnvC scope cl C X.env) fp) ca W0 elt fe) (hs : ∀ x, foldedSetIterable iter X.env x = pure x := by intro _; rfl) :
    JS X ca W (.Assign [.Name y py] (.ListComp elt [⟨tg, iter, ifs, 0⟩] scope pos) spos) (asgF i (lcE f (own.map (·.2)) t test fe)) := fun z =>
  imp_s (ps_setLc hc hN hy hyl hsw hi ok hg ht he hs) fun D σ H ⟨F, ρ, S, env, s, p⟩ => te_lc (ts1 (D := D) s p fun x S1 v F1 H1 ρ1 n s1 r p1 => by
    cases q : x.fixed with
    | none => simp only [q] at p1; exact p1.elim
    | some ev =>
      simp only [q] at p1
      obtain ⟨F2, s2, sm, r2⟩ := s.fixed n r q
      exact p1 _ F2 H1 ρ1 sm (s2.setSlot i r2 fun o => by rw [fixed_own q] at o; cases o))
theorem js_setLcO {i : Nat} {y : Str} {py : Pos} {elt tg iter : Expr} {ifs : List Expr} {scope : Scope} {own : List (Str × Nat)} {pos spos : Pos} {f fe : DE} {t : DG} {test : Option DE} (hc : X.calm = true) (hN : X.N.Nodup) (hy : X.N[i]? = some y) (hyl : X.env.scope.names.lookup y = some .local)
    (hsw : swapsWith (.ListComp elt [⟨tg, iter, ifs, 0⟩] scope pos) (some (.Name y py)) spos.line X.env = pure true) (hi : JI X ca W tg iter f) (ok : BlkOk X.N X.env.scope scope own)
    (hg : ∀ (s : Shared) (H : Hp) (C : Addr) (cl : List (Str × Addr)) (fp : List Addr), JG (X.blk s H scope (compEnvC scope cl C X.env) fp) ca tg t (own.map (·.2)))
    (ht : ∀ (s : Shared) (H : Hp) (C : Addr) (cl : List (Str × Addr)) (fp : List Addr), PTs (X.blk s H scope (compEnvC scope cl C X.env) fp) ifs (tTest1 X.K ca test))
    (he : ∀ (s : Shared) (H : Hp) (C : Addr) (cl : List (Str × Addr)) (fp : List Addr), JE (X.blk s H scope (compEnvC scope cl C X.env) fp) ca W0 elt fe) (hs : ∀ x, foldedSetIterable iter X.env x = pure x := by intro _; rfl) :
    JS X ca W (.Assign [.Name y py] (.ListComp elt [⟨tg, iter, ifs, 0⟩] scope pos) spos) (asgO i (lcE f (own.map (·.2)) t test fe)) := fun z =>
  imp_s (ps_setLc hc hN hy hyl hsw hi ok hg ht he hs) fun D σ H ⟨F, ρ, S, env, s, p⟩ => te_lc (ts1 (D := D) s p fun x S1 v F1 H1 ρ1 n s1 r p1 => by
    cases q : x.kept with
    | none => simp only [q] at p1; exact p1.elim
    | some ev =>
      simp only [q] at p1
      have r1 := kept_rep q r
      exact p1 _ F1 H1 ρ1 (Same.refl _) (s1.setSlot i (r1.base s.stp.mono) fun o j ej _ e1 o1 => fresh_slot s.sim r1 o j ej e1 o1))
theorem jts_nil : PTs X [] (tTest1 X.K ca none) := pts_nil
theorem jts_one {c : Expr} {f : DE} (h : JT X ca W0 c f) : PTs X [c] (tTest1 X.K ca (some f)) := pts_one h
end

/-! ### defs -/
section
variable (K : PySem.W.Frag) (ca : Str → Addr)
def PostF (F H : Hp) (ρ : List Addr) (Q : VK) (E : XK) : RE → Prop
  | .ok r S' => ∀ v F' H' ρ', Stp F H ρ F' H' ρ' → Sim K ca H F' ρ' S' [] [] H' → RepV K F' ρ' H H' v r → Q v H'
  | .raise ex S' => ∀ cls d F' H' ρ', Stp F H ρ F' H' ρ' → Sim K ca H F' ρ' S' [] [] H' → ExcRep K ca F' H' cls d ex → E cls d H'
  | .stuck => False
def spD (n : Nat) (Ff : DF) : Sp := fun vs H Q E => vs.length = n ∧ ∃ F ρ S evs, Sim K ca H F ρ S [] [] H ∧ Paired (fun v r => RepV K F ρ H H v r ∧ r.isOwn = false) vs evs ∧ PostF K ca F H ρ Q E (Ff evs S)
end
/-- from a body to the def: m names, the parameters first -/
def endF : RS → RE
  | .next _ S' => .ok (.d .none) S'
  | .ret v S' => .ok v S'
  | .raise e _ S' => .raise e S'
  | _ => .stuck
def fnD (m : Nat) (g : DS) : DF := fun evs S => endF (g (evs.map some ++ List.replicate (m - evs.length) none) S)
abbrev JF (P : Program) (w : World) (K : PySem.W.Frag) (mg : Str → Option Value) (base : Heap) (ca : Str → Addr) (k : Nat) (f : Addr) (fd : FuncData) (ps : List Str) (Ff : DF) : Prop :=
  FnOk P w K mg base (L2.CX P w) k f fd ps (spD K ca ps.length Ff)
section
variable {P : Program} {w : World} {K : PySem.W.Frag} {mg : Str → Option Value} {base : Heap} {ca : Str → Addr}
theorem start_slot {K : PySem.W.Frag} {F H : Hp} {ρ : List Addr} {m : Nat} : ∀ {vs : List V} {evs : List EV}, Paired (fun v r => RepV K F ρ H H v r ∧ r.isOwn = false) vs evs → ∀ (i : Nat) (ev : EV), (evs.map some ++ List.replicate m none)[i]? = some (some ev) →
    ∃ v, (vs.map some ++ List.replicate m none)[i]? = some (some v) ∧ RepV K F ρ H H v ev ∧ ev.isOwn = false
  | _, _, .nil, i, ev, h => by
    simp only [List.map_nil, List.nil_append] at h
    rw [List.getElem?_replicate] at h
    split at h <;> cases h
  | v :: vs, r :: rs, .cons h1 h2, 0, ev, h => by
    have e : r = ev := by simpa using h
    subst e
    exact ⟨v, rfl, h1.1, h1.2⟩
  | v :: vs, r :: rs, .cons h1 h2, i + 1, ev, h => by
    have h' : (rs.map some ++ List.replicate m none)[i]? = some (some ev) := h
    obtain ⟨u, e1, e2⟩ := start_slot h2 i ev h'
    exact ⟨u, e1, e2⟩
theorem fn_mk {x qual : Str} {params : Arguments} {body : List Stmt} {scope : Scope} {f : Addr} {fd : FuncData} {N ps : List Str} {k : Nat} {g : DS} (Fd : FunD K x qual params body scope [] [] f fd) (S : FnScope N ps scope)
    (hb : ∀ (cdv : Value) (A : Around) (outer : List PySem.Env) (s : Shared) (H : Hp) (E : XK), Room k (A.deeper (envOfC qual scope s.heap.objs.size f cdv)) →
      JSs (cxOf (L2.CX P w) P w K mg base N qual scope f cdv A outer s H E) ca (fun cls d _ H => E cls d H) body g) :
    JF P w K mg base ca (k + 1) f fd ps (fnD N.length g) := by
  refine Fd.ok S (fun vs H Q E h => h.1) fun cdv A outer s H vs Q E hr h => ?_
  obtain ⟨hl, F, ρ, St, evs, sim, pr, po⟩ := h
  refine ⟨_, hb cdv A outer s H E hr ⟨H, F, ρ⟩, F, ρ, St, evs.map some ++ List.replicate (N.length - evs.length) none, ⟨⟨sim.fz, sim.len, sim.nd, sim.rfz, sim.cell, ?_, fun i ev e => ?_, fun i j ei ej a e1 e2 o1 o2 => ?_⟩, Stp.refl _ _ _⟩, ?_⟩
  · unfold L2.start
    have := Paired.length pr
    rw [List.length_append, List.length_append, List.length_map, List.length_map, List.length_replicate, List.length_replicate, this]
  · obtain ⟨v, e1, e2, e3⟩ := start_slot pr i ev e
    unfold L2.start
    rw [Paired.length pr]
    exact ⟨v, e1, e2⟩
  · obtain ⟨v, _, _, e3⟩ := start_slot pr i ei e1
    rw [e3] at o1
    cases o1
  · unfold fnD at po
    revert po
    cases q : g (evs.map some ++ List.replicate (N.length - evs.length) none) St with
    | next env' S' => exact fun po σ' F' H' ρ' f' s' => po .non F' H' ρ' s'.stp (sim_drop s'.sim) .non
    | ret v S' => exact fun po v F' H' ρ' st s' r => po v F' H' ρ' st s' r
    | raise e env' S' => exact fun po cls d σ' F' H' ρ' f' s' r => po cls d F' H' ρ' s'.stp (sim_drop s'.sim) r
    | brk env' S' => exact fun po => po.elim
    | cont env' S' => exact fun po => po.elim
    | stuck => exact fun po => po.elim
end

/-! ### calls -/
def callE (Ff : DF) (as : DA) : DE := fun env S => (as env S).bind Ff
/-- a call without arguments, of a def that raises nothing -/
def call0E (Ff : DF) : DE := fun _ S => match Ff [] S with
  | .raise _ _ => .stuck
  | r => r
section
variable {X : Cx} {ca : Str → Addr} {W : WX} {k : Nat} {f : Addr} {fd : FuncData} {ps : List Str} {Ff : DF} {x : Str} {p pos : Pos} {e : Expr} {es : List Expr} {fs : List DE}
theorem asL_own : ∀ (fs : List DE) (env : Env) (S S' : Store) (rs : List EV), asL fs env S = .ok rs S' → ∀ r, r ∈ rs → r.isOwn = false
  | [], env, S, S', rs, h, r, hr => by
    cases h
    cases hr
  | f :: fs, env, S, S', rs, h, r, hr => by
    unfold asL consA at h
    cases q : f env S with
    | ok x S1 =>
      simp only [q, RE.bindA] at h
      cases q2 : x.fixed with
      | none => simp only [q2] at h; cases h
      | some x' =>
        simp only [q2] at h
        cases q3 : asL fs env S1 with
        | ok xs S2 =>
          simp only [q3, RA.bindA] at h
          cases h
          rcases List.mem_cons.mp hr with z | z
          · rw [z]; exact fixed_own q2
          · exact asL_own fs env S1 _ _ q3 r z
        | raise e S2 => simp only [q3, RA.bindA] at h; cases h
        | stuck => simp only [q3, RA.bindA] at h; cases h
    | raise e S1 => simp only [q, RE.bindA] at h; cases h
    | stuck => simp only [q, RE.bindA] at h; cases h
theorem paired_and {α β : Type} {R R' : α → β → Prop} : ∀ {l : List α} {m : List β}, Paired R l m → (∀ b, b ∈ m → ∀ a, R a b → R' a b) → Paired R' l m
  | _, _, .nil, _ => .nil
  | _, _, .cons h t, q => .cons (q _ List.mem_cons_self _ h) (paired_and t fun b hb => q b (List.mem_cons_of_mem _ hb))
theorem post_call {K : PySem.W.Frag} {H0 F H F1 H1 : Hp} {ρ ρ1 : List Addr} {S1 : Store} {env : Env} {σ : L2.St} {Q : VK} {r : RE} (n : Now K ca H0 env σ F H ρ F1 H1 ρ1 S1) (p : PostE K ca W H0 env σ F H ρ Q r) : PostF K ca F1 H1 ρ1 Q (fun cls d H => W cls d σ H) r := by
  cases r with
  | ok r S2 => exact fun v F2 H2 ρ2 st s2 rr => p v F2 H2 ρ2 ⟨n.stp.trans st, n.sim.after st s2⟩ (RepE.ofV (rr.base n.stp.mono))
  | raise e S2 => exact fun cls d F2 H2 ρ2 st s2 rr => p cls d F2 H2 ρ2 ⟨n.stp.trans st, n.sim.after st s2⟩ rr
  | stuck => exact p
theorem sim_base {K : PySem.W.Frag} {H0 B F H : Hp} {ρ : List Addr} {S : Store} {env : Env} {σ : L2.St} (s : Sim K ca H0 F ρ S env σ H) : Sim K ca B F ρ S [] [] H :=
  ⟨s.fz, s.len, s.nd, s.rfz, s.cell, rfl, fun i ev e => by simp at e, fun i j ei ej a e => by simp at e⟩
theorem je_call (Fk : JF X.prog X.w X.K X.mg X.base ca k f fd ps Ff) (hr : Room k X.A) (tk : Takes X W) (hg : Gl X x) (hm : X.mg x = some (.ref f)) (hk : PySem.W.keepIn X.K (.ref f) = true) (hb : Binds X.K fd ps []) (ha : JA X ca W (e :: es) (asL fs)) (hl : fs.length = ps.length := by rfl)
    (hdb : (x == ("__debug__" : Str)) = false := by decide) (he : starEach (e :: es) X.env = (false, eval e X.env) :: starEach es X.env := by rfl) (hpl : (backTo pos (starEach es X.env)).any (·.1) = false := by rfl) : JE X ca W (.Call (.Name x p) (e :: es) [] pos) (callE Ff (asL fs)) :=
  imp_e (pe_callS Fk hr hg hm hk hb (fun σ => passAt tk σ) ha hdb he hpl) fun σ H Q h => ta_end h fun H0 F ρ S env s xs S1 vs F1 H1 ρ1 ex n r p =>
    ⟨by rw [Paired.length r, asL_len _ _ _ _ _ ex, hl], F1, ρ1, S1, xs, sim_base n.sim, paired_and r fun b hb a q => ⟨by
      have ho := asL_own _ _ _ _ _ ex b hb
      cases b with
      | own x => cases ho
      | ownD x => cases ho
      | _ => exact q, asL_own _ _ _ _ _ ex b hb⟩, post_call n p⟩
theorem je_call0 (Fk : JF X.prog X.w X.K X.mg X.base ca k f fd [] Ff) (hr : Room k X.A) (hg : Gl X x) (hm : X.mg x = some (.ref f)) (hk : PySem.W.keepIn X.K (.ref f) = true) (hb : Binds X.K fd [] [])
    (hdb : (x == ("__debug__" : Str)) = false := by decide) : JE X ca W (.Call (.Name x p) [] [] pos) (call0E Ff) :=
  imp_e (pe_call0 Fk hr hg hm hk hb .nil passL hdb) fun σ H Q ⟨H0, F, ρ, S, env, s, p⟩ => by
    refine ⟨rfl, F, ρ, S, [], sim_base s, .nil, ?_⟩
    unfold call0E at p
    revert p
    have n : Now X.K ca H0 env σ F H ρ F H ρ S := ⟨Stp.refl _ _ _, s⟩
    cases q : Ff [] S with
    | ok r S2 => exact fun p v F2 H2 ρ2 st s2 rr => p v F2 H2 ρ2 ⟨st, s.after st s2⟩ (RepE.ofV rr)
    | raise e S2 => exact fun p => p.elim
    | stuck => exact fun p => p
end
end DL

set_option Elab.async false
set_option linter.all false
set_option maxRecDepth 100000
set_option maxHeartbeats 4000000
/-! DL12: sets of ints and texts, made of a list or a tuple. -/
namespace DL
open PySem PySem.Spec PyProof.Rows L2

/-- the different ones, in the order in which they are met -/
def hasK {κ : Type} [DecidableEq κ] (acc : List κ) (k : κ) : Bool := acc.any fun x => decide (x = k)
def dd1 {κ : Type} [DecidableEq κ] (acc : List κ) (k : κ) : List κ := if hasK acc k then acc else acc ++ [k]
def dd {κ : Type} [DecidableEq κ] (ks : List κ) : List κ := ks.foldl dd1 []
section
variable {κ : Type} [DecidableEq κ]
theorem dd_snoc (ks : List κ) (k : κ) : dd (ks ++ [k]) = dd1 (dd ks) k := by
  unfold dd
  rw [List.foldl_append]
  rfl
theorem dd1_any (acc : List κ) (v k : κ) : hasK (dd1 acc v) k = (hasK acc k || decide (k = v)) := by
  unfold dd1
  split
  · rename_i h
    by_cases e : k = v
    · rw [e, h, decide_eq_true rfl]
      rfl
    · rw [decide_eq_false e, Bool.or_false]
  · unfold hasK
    rw [List.any_append]
    congr 1
    by_cases e : k = v
    · subst e; simp
    · have : ¬ v = k := fun z => e z.symm
      simp [e, this]
theorem dd1_len (acc : List κ) (v : κ) : (dd1 acc v).length = if hasK acc v then acc.length else acc.length + 1 := by
  unfold dd1
  split <;> simp
theorem setOf_eq {prog : Program} {w : World} {knd : PySem.KeyKind prog w κ} {h : Heap} {a : Addr} {S S' : κ → Bool} {n n' : Nat} (hS : h.SetOf knd a S n) (e : ∀ k, S k = S' k) (en : n = n') : h.SetOf knd a S' n' := by
  have e2 : S = S' := funext e
  rw [← e2, ← en]
  exact hS
theorem dd_len : ∀ ks : List κ, (dd ks).length ≤ ks.length := fun ks => by
  have h : ∀ (l acc : List κ), (l.foldl dd1 acc).length ≤ acc.length + l.length := fun l => by
    induction l with
    | nil => exact fun acc => Nat.le_refl _
    | cons k l ih =>
      intro acc
      have := ih (dd1 acc k)
      have h2 := dd1_len acc k
      rw [List.foldl_cons, List.length_cons]
      split at h2 <;> omega
  have := h ks []
  rw [List.length_nil, Nat.zero_add] at this
  exact this
variable {prog : Program} {w : World} {A : Around} {R : Result → Shared → Prop} {I : Addr} {fp wr : List Addr} {G : Array GenState → Array GenState → Prop} {n : Nat} {P : Nat → Value → Prop} {St : Nat → Shared → Prop}
/-- the loop that fills a set from an iterator -/
theorem fill_set {knd : PySem.KeyKind prog w κ} (walk : WalksS prog w A.in1 I fp wr G n P St) (c : Addr) (hc : c ∉ fp) (ks : List κ) (hks : ks.length = n) (hb : n + 1 < scanBound)
    (hval : ∀ i v, P i v → ∃ k, ks[i]? = some k ∧ knd.is k v = true ∧ v.scannable = true) (j : Nat) : ∀ (i : Nat) (s : Shared), i + j = n → St i s →
      s.heap.SetOf knd c (fun k => hasK (dd (ks.take i)) k) (dd (ks.take i)).length →
      (∀ s', Moved (c :: wr) G s s' → s'.heap.SetOf knd c (fun k => hasK (dd ks) k) (dd ks).length → R (.ok (.ret .none)) s') →
      codeAny (model prog w) A (.builtin "set.update.loop" ⟨[.ref c, .ref I], []⟩) R s := by
  have sub : ∀ b, b ∈ wr → b ∈ c :: wr := fun b hb => List.mem_cons_of_mem _ hb
  have ncw : c ∉ wr := fun h => hc (walk.sub _ h)
  have stays : ∀ {s s' : Shared} {S : κ → Bool} {m : Nat}, Moved wr G s s' → s.heap.SetOf knd c S m → s'.heap.SetOf knd c S m := fun {s s' S m} hm hS => by
    obtain ⟨o, es, ep, t, ho, more⟩ := hS
    exact ⟨o, es, ep, t, hm.heap c _ ncw ho, more⟩
  induction j with
  | zero =>
    intro i s hi st hS fin
    obtain rfl : i = n := by omega
    refine codeAny_builtin PyProof.Rows.F.entry_set_update_loop ?_
    rw [Around.under_plainId PyProof.Rows.F.plain_set_update_loop _]
    change wpAny _ A.in1 (pyNext (.ref I) >>= _) _ _ s
    refine wpAny_bind (walk.done s _ _ st fun s1 m1 => ?_)
    change wpAny _ A.in1 (ret Value.none) _ _ s1
    rw [← hks, List.take_length] at hS
    exact wpAny_pure (fin s1 (m1.mono sub) (stays m1 hS))
  | succ j ih =>
    intro i s hi st hS fin
    have lt : i < n := by omega
    refine codeAny_builtin PyProof.Rows.F.entry_set_update_loop ?_
    rw [Around.under_plainId PyProof.Rows.F.plain_set_update_loop _]
    change wpAny _ A.in1 (pyNext (.ref I) >>= _) _ _ s
    refine wpAny_bind (walk.item i s _ _ lt st fun v s1 pv st1 m1 => ?_)
    obtain ⟨k, hk, kv, sc⟩ := hval i v pv
    have tk : ks.take (i + 1) = ks.take i ++ [k] := by rw [List.take_add_one, hk]; rfl
    have room : (dd (ks.take i)).length + 1 < scanBound := by
      have h1 := dd_len (ks.take i)
      rw [List.length_take] at h1
      omega
    change wpAny _ A.in1 (holding [v] (setAdd c v) >>= _) _ _ s1
    refine wpAny_bind (wpAny_holding ?_)
    unfold setAdd
    refine wpAny_holding (wpAny_bind (knd.pyHash (k := k) kv ?_))
    refine wpAny_setAddHashed_of (knd := knd) (s := { s1 with toks := s1.toks + 1 }) kv sc (show s1.heap.SetOf knd c _ _ from stays m1 hS) room fun h2 sb S2 => ?_
    have other : ∀ b, b ≠ c → h2.get? b = s1.heap.get? b := fun b e => sb.2 b e
    have S3 : h2.SetOf knd c (fun k' => hasK (dd (ks.take (i + 1))) k') (dd (ks.take (i + 1))).length := by
      rw [tk, dd_snoc]
      refine setOf_eq S2 (fun k' => ?_) ?_
      · rw [dd1_any]
      · rw [dd1_len]
    refine wpAny_pure ⟨plainId_quiet PyProof.Rows.F.plain_set_update_loop _, ih (i + 1) _ (by omega) (walk.frame _ s1 _ _ st1 (Nat.le_succ _) fun b hb o e => ?_) S3 fun s4 m4 S4 => ?_⟩
    · rw [other b (fun z => hc (by rw [← z]; exact hb))]
      exact e
    · refine fin s4 (Moved.trans walk.gtrans ((m1.mono sub).then_heap (Nat.le_succ _) fun b o hb e => ?_) m4) S4
      rw [other b (fun z => hb (by rw [z]; exact List.mem_cons_self))]
      exact e
end
section
variable {κ : Type} [DecidableEq κ] {prog : Program} {w : World} {A : Around} {E : Value → Shared → Prop} {s : Shared}
/-- an empty set, just made -/
abbrev newSet (led : Bool) : Obj := { cls := .type "set", dict := none, data := .set #[] 0 (.fresh 0 0 led) }
/-- set(x), x a list or a tuple whose items are keys of one kind -/
theorem set_of {knd : PySem.KeyKind prog w κ} {l : Addr} {T : String} {dct : Option Addr} {items : Array Value} {cnt : Nat} {slo : Array (Option Value)} {ks : List κ} {Q : Value → Shared → Prop} (hT : T = "list" ∨ T = "tuple") (hh : A.handled = none)
    (hl : s.heap.get? l = some { cls := .type T, dict := dct, data := .seq items cnt, slots := slo }) (hks : ks.length = items.size) (hb : items.size + 1 < scanBound)
    (hval : ∀ (i : Nat) (v : Value), items[i]? = some v → ∃ k, ks[i]? = some k ∧ knd.is k v = true ∧ v.scannable = true)
    (fin : ∀ (h' : Heap) (tk : Nat), h'.SetOf knd s.heap.objs.size (fun k => hasK (dd ks) k) (dd ks).length → (∀ b o, b < s.heap.objs.size → s.heap.get? b = some o → h'.get? b = some o) → Q (.ref s.heap.objs.size) { s with heap := h', toks := tk }) :
    wpAny (model prog w) A (call (.type "set") [.ref l]) Q E s := by
  obtain ⟨c, tl, hmro⟩ := PySem.F.called_set.mro
  have hmade := PySem.F.called_set.made
  have hsub := PySem.F.called_set.sub
  have h1 := PySem.F.called_set.notType
  have h2 := PySem.F.called_set.canCreate
  have hct := PySem.F.typeCall_set_1 (.ref l)
  refine wpAny_call (codeAny_of_tree ?_)
  change wpAny _ _ (callAny (.type "set") _) _ _ _
  refine wpAny_pure ⟨Code.quiet_builtin _ (by decide +kernel), codeAny_builtin PySem.F.entry_type_call ?_⟩
  rw [Around.under_plain (weight_type_call_type "set" [.ref l] []) rfl]
  repeat (any_goals (first | assumption | wp_step))
  refine codeAny_mono (code_set_new_1 (.ref l) (E := E) (Q₁ := fun obj s1 => ∃ led : Bool, obj = .ref s.heap.objs.size ∧ s1 = { s with heap := s.heap.push (newSet led) }) fun led => ⟨led, rfl, rfl⟩) fun r s1 hr => ?_
  match r, hr with
  | .error e, hr => exact hr
  | .ok (.next), hr => exact hr.elim
  | .ok (.brk), hr => exact hr.elim
  | .ok (.cont), hr => exact hr.elim
  | .ok (.ret obj), hr =>
    obtain ⟨led, rfl, rfl⟩ := hr
    have atS : (s.heap.push (newSet led)).get? s.heap.objs.size = some (newSet led) := Heap.get?_push_size _ rfl
    have hT0 : Shared.TypeIs { s with heap := s.heap.push (newSet led) } (.ref s.heap.objs.size) "set" := ⟨_, atS, rfl⟩
    have hli := PySem.F.called_set.init.lookup
    have hbi := PySem.F.called_set.init.bind (.ref s.heap.objs.size)
    repeat (any_goals (first | assumption | wp_step))
    refine codeAny_mono (codeAny_call_builtin (R := wants (fun r s2 => r = .none ∧ ∃ h' tk, s2 = { s with heap := h', toks := tk } ∧ h'.SetOf knd s.heap.objs.size (fun k => hasK (dd ks) k) (dd ks).length ∧
        (∀ b o, b < s.heap.objs.size → s.heap.get? b = some o → h'.get? b = some o)) E) PySem.F.called_set.init.plain PySem.F.entry_set_init (check_set_init_1 hT0 ?_)) fun r2 s2 hr2 => ?_
    · have ls : l < s.heap.objs.size := Heap.lt_size hl
      have hl2 : (s.heap.push (newSet led)).get? l = some { cls := .type T, dict := dct, data := .seq items cnt, slots := slo } := Heap.get?_push_of_some _ hl
      have nS : s.heap.objs.size ≠ (s.heap.push (newSet led)).objs.size := by
        rw [Heap.size_push]
        exact Nat.ne_of_lt (Nat.lt_succ_self _)
      have nI : l ≠ (s.heap.push (newSet led)).objs.size := by
        rw [Heap.size_push]
        exact Nat.ne_of_lt (Nat.lt_succ_of_lt ls)
      have cfp : s.heap.objs.size ∉ [(s.heap.push (newSet led)).objs.size, l] := by
        intro h
        rcases List.mem_cons.mp h with h | h
        · exact nS h
        · rw [List.mem_singleton] at h
          exact absurd ls (by rw [h]; exact Nat.lt_irrefl _)
      have hh3 : A.in1.in1.in1.handled = none := by simp [hh]
      have none0 : ∀ (ob : Obj), ((s.heap.push (newSet led)).push ob).SetOf knd s.heap.objs.size (fun k => hasK (dd (ks.take 0)) k) (dd (ks.take 0)).length := fun ob =>
        setOf_eq ((PyProof.Rows.setObjOf_fresh (knd := knd) led).setOf (Heap.get?_push_of_some _ atS) (by unfold scanBound; omega)) (fun _ => rfl) rfl
      have ended : ∀ {ob : Obj} {B : Around} {s' : Shared}, Moved (s.heap.objs.size :: [(s.heap.push (newSet led)).objs.size]) (fun a b => b = a) { s with heap := (s.heap.push (newSet led)).push ob } s' → s'.heap.SetOf knd s.heap.objs.size (fun k => hasK (dd ks) k) (dd ks).length →
          ∃ h' tk, s' = { s with heap := h', toks := tk } ∧ h'.SetOf knd s.heap.objs.size (fun k => hasK (dd ks) k) (dd ks).length ∧ (∀ b o, b < s.heap.objs.size → s.heap.get? b = some o → h'.get? b = some o) := fun {ob B s'} mv hS => by
        obtain ⟨h', g', d', tk', os'⟩ := s'
        have eg : g' = s.gens := mv.gens
        have ed : d' = s.drawn := mv.drawn
        have eo : os' = s.os := mv.os
        subst eg ed eo
        refine ⟨h', tk', rfl, hS, fun b o hb e => mv.heap b o (fun hm => ?_) (Heap.get?_push_of_some _ (Heap.get?_push_of_some _ e))⟩
        rcases List.mem_cons.mp hm with z | z
        · exact absurd hb (by rw [z]; exact Nat.lt_irrefl _)
        · rw [List.mem_singleton, Heap.size_push] at z
          exact absurd hb (by rw [z]; exact Nat.not_lt.mpr (Nat.le_succ _))
      rcases hT with rfl | rfl
      · have hsls := PySem.F.sub_list_set
        have hslf := PySem.F.sub_list_frozenset
        have hne : (Value.type "list" == Value.type "dict") = false := by decide
        have hl3 : (s.heap.push (newSet led)).IsList l items := ⟨_, hl2, rfl, cnt, rfl⟩
        unfold Builtin.«set.__init__» noKeywords Builtin.Frozenset.updateFrom
        generalize hPI : pyIter = PI
        wp_walk
        subst hPI
        refine wpAny_pyIter_list hl3 (wpAny_bind (wpAny_runValue ?_))
        refine fill_set ((Walks.list hh3 _ l nI items).toS) s.heap.objs.size cfp ks hks hb hval items.size 0 _ (by omega) ⟨⟨_, Heap.get?_push_size _ rfl, rfl, rfl⟩, hl3.push _⟩ (none0 _) fun s' mv hS => ?_
        have q := ended (B := A) mv hS
        exact wpAny_pure (wpAny_pure ⟨rfl, q⟩)
      · have hsls := PySem.F.sub_tuple_set
        have hslf := PySem.F.sub_tuple_frozenset
        have hne : (Value.type "tuple" == Value.type "dict") = false := by decide
        have hl3 : (s.heap.push (newSet led)).IsTuple l items := ⟨_, hl2, rfl, cnt, rfl⟩
        unfold Builtin.«set.__init__» noKeywords Builtin.Frozenset.updateFrom
        generalize hPI : pyIter = PI
        wp_walk
        subst hPI
        refine wpAny_pyIter_tuple hl3 (wpAny_bind (wpAny_runValue ?_))
        refine fill_set ((Walks.tuple hh3 _ l nI items).toS) s.heap.objs.size cfp ks hks hb hval items.size 0 _ (by omega) ⟨⟨_, Heap.get?_push_size _ rfl, rfl, rfl⟩, hl3.push _⟩ (none0 _) fun s' mv hS => ?_
        have q := ended (B := A) mv hS
        exact wpAny_pure (wpAny_pure ⟨rfl, q⟩)
    · match r2, hr2 with
      | .error e, hr2 => exact hr2
      | .ok (.next), hr2 => exact hr2.elim
      | .ok (.brk), hr2 => exact hr2.elim
      | .ok (.cont), hr2 => exact hr2.elim
      | .ok (.ret v), hr2 =>
        obtain ⟨rfl, h', tk, rfl, hS, hk⟩ := hr2
        repeat (any_goals (first | assumption | wp_step))
        exact fin _ _ hS hk
end

/-! ### set(x), len of it -/
def keyD : PyData → Option Key
  | .int i => some (.inl i)
  | .str x => some (.inr x)
  | _ => none
def keysD : List PyData → Option (List Key)
  | [] => some []
  | x :: xs => match keyD x, keysD xs with
    | some k, some ks => some (k :: ks)
    | _, _ => none
/-- a list or a tuple of keys, as it is read -/
def Sq (K : PySem.W.Frag) (H : Hp) (v : V) (ks : List Key) : Prop := ∃ a, v = .ref a ∧ (SqL K H a (ks.map kV) ∨ SqT K H a (ks.map kV))
theorem keys_rep {K : PySem.W.Frag} {F : Hp} : ∀ {vs : List V} {xs : List PyData} {ks : List Key}, DrAll K F vs xs → keysD xs = some ks → vs = ks.map kV
  | _, _, ks, .nil, e => by cases e; rfl
  | v :: vs, x :: xs, ks, .cons h r, e => by
    unfold keysD at e
    cases q : keyD x with
    | none => simp only [q] at e; cases e
    | some k =>
      cases q2 : keysD xs with
      | none => simp only [q, q2] at e; cases e
      | some ks' =>
        simp only [q, q2] at e
        cases e
        rw [keys_rep r q2]
        cases h <;> cases q <;> rfl
section
variable {X : Cx}
theorem key_is (k : Key) {v : Value} (r : RelV (kV k) v) : keyIs k v = true ∧ v.scannable = true := by
  cases k with
  | inl i =>
    obtain ⟨t, rfl⟩ := (show ∃ t, v = Value.int i t from r)
    exact ⟨keyIs_int i t, rfl⟩
  | inr x =>
    obtain ⟨t, rfl⟩ := (show ∃ t, v = Value.str x t from r)
    exact ⟨keyIs_str x t, rfl⟩
def rSetOf (P : Program) (w : World) (K : PySem.W.Frag) : List V → Hp → VK → Prop := fun xs H Q => ∃ v ks, xs = [v] ∧ Sq K H v ks ∧ ks.length ≤ 4000 ∧ ∀ p, H p = none → Q (.ref p) (upd H p (SetK P w p (fun k => hasK (dd ks) k) (dd ks).length))
theorem call_set1 (hc : X.calm = true) : CallR X (.type "set") (rSetOf X.prog X.w X.K) := by
  intro pins s σ H xs us Q I r h
  obtain ⟨v, ks, rfl, ⟨a, rfl, hs⟩, h4, q⟩ := h
  obtain ⟨u, rfl, ru⟩ := vals1 r
  cases ru
  have hn := I.hok.fresh (Nat.le_refl s.heap.objs.size)
  have item : ∀ {its : List Value}, Vals (ks.map kV) its → ∀ (i : Nat) (v : Value), its.toArray[i]? = some v → ∃ k, ks[i]? = some k ∧ (mixKind X.prog X.w).is k v = true ∧ v.scannable = true := fun {its} rv i v e => by
    have e' : its[i]? = some v := by simpa using e
    have hi : i < ks.length := by
      have h1 := (List.getElem?_eq_some_iff.mp e').1
      have h2 := rv.length
      rw [List.length_map] at h2
      omega
    obtain ⟨u, e2, ru⟩ := rv.get (i := i) (x := kV ks[i]) (by rw [List.getElem?_map, List.getElem?_eq_getElem hi]; rfl)
    rw [e'] at e2
    cases e2
    exact ⟨ks[i], List.getElem?_eq_getElem hi, key_is _ ru⟩
  have done : ∀ (h' : Heap) (tk : Nat), h'.SetOf (mixKind X.prog X.w) s.heap.objs.size (fun k => hasK (dd ks) k) (dd ks).length → (∀ b o, b < s.heap.objs.size → s.heap.get? b = some o → h'.get? b = some o) →
      EP X pins σ Q (.ref s.heap.objs.size) { s with heap := h', toks := tk } := fun h' tk hS hk =>
    ⟨.ref s.heap.objs.size, _, I.laid (t' := tk) (fun b o e => hk b o (Heap.lt_size e) e) (Nat.le_refl _) (setK_new hS), rfl, q _ hn⟩
  have sz : ∀ {its : List Value}, Vals (ks.map kV) its → ks.length = its.toArray.size := fun {its} rv => by
    rw [List.size_toArray, ← rv.length, List.length_map]
  rcases hs with hs | hs
  · obtain ⟨its, rv, ⟨o, c, ho, h1, h2, h3⟩, _⟩ := I.list hs
    obtain ⟨ocls, odict, odata, oslots⟩ := o
    cases h1
    cases h3
    exact set_of (.inl rfl) (I.ok.hd hc) ho (sz rv) (by rw [← sz rv]; unfold scanBound; omega) (item rv) done
  · obtain ⟨its, rv, ⟨o, ho, h1, c, h3⟩, _⟩ := I.tuple hs
    obtain ⟨ocls, odict, odata, oslots⟩ := o
    cases h1
    cases h3
    exact set_of (.inr rfl) (I.ok.hd hc) ho (sz rv) (by rw [← sz rv]; unfold scanBound; omega) (item rv) done
def rLenSet (P : Program) (w : World) : List V → Hp → VK → Prop := fun xs H Q => ∃ a S n, xs = [.ref a] ∧ H a = some (SetK P w a S n) ∧ n ≤ 4000 ∧ Q (.int n) H
theorem call_lenSet : CallR X (.builtin "len") (rLenSet X.prog X.w) := by
  intro pins s σ H xs us Q I r h
  obtain ⟨a, S, n, rfl, ha, hn, q⟩ := h
  obtain ⟨u, rfl, ru⟩ := vals1 r
  cases ru
  obtain ⟨o, es, ep, t, ho, hex, hd, _, _, _, hf, hsz⟩ := setK_get I ha
  exact call_len_set ho hex hd hf (by rw [hsz]; omega) ⟨.int n, H, I.tok _, ⟨_, by rw [hsz]⟩, q⟩
end
/-- len(set(x)) -/
def lsG : PyData → Option EV
  | .list xs => match keysD xs with
    | some ks => if ks.length ≤ 4000 then some (iE (dd ks).length) else none
    | none => none
  | .tuple xs => match keysD xs with
    | some ks => if ks.length ≤ 4000 then some (iE (dd ks).length) else none
    | none => none
  | _ => none
abbrev lenSetE : DE → DE := RE1 (vUn lsG)
section
variable {K : PySem.W.Frag} {ca : Str → Addr} {W : WX}
theorem unv_lenSet {P : Program} {w : World} : UnV K ca W (fun v H Q => rSetOf P w K [v] H fun x H1 => rLenSet P w [x] H1 Q) lsG := by
  intro H0 env σ F H ρ F' H' ρ' S' v1 a ev Q n r e p
  have go : ∀ {xs : List PyData} {ks : List Key} {vs : List V} {b : Addr}, v1 = .ref b → keysD xs = some ks → DrAll K F' vs xs → (SqL K H' b vs ∨ SqT K H' b vs) → ks.length ≤ 4000 → ev = iE (dd ks).length → rSetOf P w K [v1] H' fun x H1 => rLenSet P w [x] H1 Q := fun {xs ks vs b} ev1 q1 d1 hq h4 ee => by
    subst ev1 ee
    have e := keys_rep d1 q1
    subst e
    refine ⟨_, ks, rfl, ⟨b, rfl, hq⟩, h4, fun pt hp => ⟨pt, _, _, rfl, upd_same, Nat.le_trans (dd_len ks) h4, ?_⟩⟩
    exact fin_d (n.newO hp) p (.int _)
  unfold lsG at e
  split at e
  · split at e
    · rename_i ks q1
      split at e
      · rename_i h4
        cases e
        obtain ⟨b, vs, e1, h1, d1⟩ := r
        exact go e1 q1 d1 (.inl (SqL.of h1)) h4 rfl
      · cases e
    · cases e
  · split at e
    · rename_i ks q1
      split at e
      · rename_i h4
        cases e
        cases r with
        | tup h1 d1 => exact go rfl q1 d1 (.inr (same_t n.sim.fz h1)) h4 rfl
      · cases e
    · cases e
  · cases e
end
section
variable {X : Cx} {ca : Str → Addr} {W : WX} {a : Expr} {fa : DE} {p p2 pos pos2 : Pos}
theorem je_lenSet (hc : X.calm = true) (hg : Gl X "len") (hm : X.mg "len" = none) (hg2 : Gl X "set") (hm2 : X.mg "set" = none) (h : JE X ca W a fa) (he : starEach [a] X.env = (false, eval a X.env) :: starEach [] X.env := by rfl)
    (he2 : starEach [.Call (.Name "set" p2) [a] [] pos2] X.env = (false, eval (.Call (.Name "set" p2) [a] [] pos2) X.env) :: starEach [] X.env := by rfl) : JE X ca W (.Call (.Name "len" p) [.Call (.Name "set" p2) [a] [] pos2] [] pos) (lenSetE fa) :=
  imp_e (pe_callB call_lenSet hg hm PySem.boot_len (pa_cons (pe_callTy (call_set1 hc) hg2 hm2 PyProof.Rows.boot_set (pa_cons h pa_nil he) (he := he)) pa_nil he2) (he := he2)) fun σ H Q h => te_un unv_lenSet.d h
end
end DL

set_option Elab.async false
set_option linter.all false
set_option maxRecDepth 100000
set_option maxHeartbeats 4000000
/-! DL13: dicts with text keys. -/
namespace DL
open PySem PySem.Spec PyProof.Rows L2

def lookD : List (PyData × PyData) → Str → Option PyData
  | [], _ => none
  | (.str k', d) :: r, k => if k' = k then some d else lookD r k
  | _ :: r, k => lookD r k
section
variable {K : PySem.W.Frag} {ca : Str → Addr} {W : WX} {H0 F H F' H' F1 H1 F2 H2 B : Hp} {ρ ρ' ρ1 ρ2 : List Addr} {S S' S1 S2 : Store} {env : Env} {σ : L2.St} {v : V} {ev : EV} {Q : VK}
theorem look_rep {k : Str} {ks : List (Key × V)} {xs : List (PyData × PyData)} (h : DrKv K F ks xs) : (∀ d, lookD xs k = some d → ∃ v, valV ks (.inr k) = some v ∧ Dr K F v d) ∧ (lookD xs k = none → valV ks (.inr k) = none) := by
  induction xs generalizing ks with
  | nil =>
    cases h
    exact ⟨fun d e => (by cases e), fun _ => rfl⟩
  | cons x xs ih =>
    cases h with
    | cons h r =>
    rename_i k' w d' ks
    obtain ⟨i1, i2⟩ := ih r
    by_cases e : k' = k
    · subst e
      refine ⟨fun d ed => ?_, fun en => ?_⟩
      · rw [lookD, if_pos rfl] at ed
        cases ed
        exact ⟨w, valV_pos rfl, h⟩
      · rw [lookD, if_pos rfl] at en
        cases en
    · have ne : ¬ ((Sum.inr k' : Key) = Sum.inr k) := fun z => e (Sum.inr.inj z)
      refine ⟨fun d ed => ?_, fun en => ?_⟩
      · rw [lookD, if_neg e] at ed
        rw [valV_neg (p := (Sum.inr k', w)) ne]
        exact i1 d ed
      · rw [lookD, if_neg e] at en
        rw [valV_neg (p := (Sum.inr k', w)) ne]
        exact i2 en
/-- an object of one's own, new since the start, is written -/
theorem Now.mutNew (n : Now K ca H0 env σ F H ρ F2 H2 ρ2 S2) (old : Old env σ H) {p : Addr} {o : HO} (hp : H p = none) (hF : F2 p = none) (hr : p ∉ ρ2) (hh : H2 p ≠ none ∨ True) : Now K ca H0 env σ F H ρ F2 (upd H2 p o) ρ2 S2 := by
  refine ⟨⟨n.stp.fz, n.stp.nfz, n.stp.rho, fun b u h1 h2 => ?_, fun b hb => ?_⟩, n.sim.of (Same.refl _) (fun b u hb => ?_) (fun b hb => ⟨n.sim.rfz b hb, fun u hu => ?_⟩) fun i ev b e1 e2 e3 => ⟨(n.sim.own_at e1 e2 e3).1, fun u hu => ?_⟩⟩
  · have : b ≠ p := fun z => by rw [z, hp] at h2; cases h2
    rw [upd_ne this]
    exact n.stp.fr b u h1 h2
  · by_cases z : b = p
    · rw [z]; exact hp
    · rw [upd_ne z] at hb
      exact n.stp.mono b hb
  · have : b ≠ p := fun z => by rw [z, hF] at hb; cases hb
    rw [upd_ne this]
    exact n.sim.fz _ _ hb
  · have : b ≠ p := fun z => hr (by rw [← z]; exact hb)
    rw [upd_ne this]
    exact hu
  · have : b ≠ p := fun z => old p hp i ev e1 e2 (by rw [← z]; exact e3)
    rw [upd_ne this]
    exact hu
end
/-! ### {k: e, ..} -/
def dictE (fs : List (Str × DE)) : DE := fun env S => (asL (fs.map (·.2)) env S).bind fun xs S1 => match allD xs with
  | some ds => .ok (.ownD ((fs.map fun p => PyData.str p.1).zip ds)) S1
  | none => .stuck
section
variable {K : PySem.W.Frag} {ca : Str → Addr} {W : WX} {Q : VK} {env : Env} {σ : L2.St} {H0 : Hp}
theorem tp_go : ∀ (fs : List (Str × DE)) {F H F1 H1 : Hp} {ρ ρ1 : List Addr} {S1 : Store} (n : Now K ca H0 env σ F H ρ F1 H1 ρ1 S1) (k : List EV → Store → RE) (p : PostE K ca W H0 env σ F H ρ Q ((asL (fs.map (·.2)) env S1).bind k)) (R : List (V × V) → Hp → Prop)
    (hk : ∀ xs S2 vs F2 H2 ρ2, asL (fs.map (·.2)) env S1 = .ok xs S2 → Now K ca H0 env σ F H ρ F2 H2 ρ2 S2 → Stp F1 H1 ρ1 F2 H2 ρ2 → Paired (fun v r => RepV K F2 ρ2 H1 H2 v r) vs xs → PostE K ca W H0 env σ F H ρ Q (k xs S2) → R ((fs.map fun p => V.str p.1).zip vs) H2),
    tPairs (fs.map fun p => (tC (.str p.1), dTE K ca W p.2)) σ H1 R
  | [], F, H, F1, H1, ρ, ρ1, S1, n, k, p, R, hk => hk [] S1 [] F1 H1 ρ1 rfl n (Stp.refl _ _ _) .nil p
  | (key, f) :: fs, F, H, F1, H1, ρ, ρ1, S1, n, k, p, R, hk => by
    show dTE K ca W f σ H1 fun y H2 => tPairs (fs.map fun p => (tC (.str p.1), dTE K ca W p.2)) σ H2 fun ps H3 => R ((V.str key, y) :: ps) H3
    refine ⟨H0, F1, ρ1, S1, env, n.sim, ?_⟩
    have p' : PostE K ca W H0 env σ F H ρ Q ((consA f (asL (fs.map (·.2))) env S1).bind k) := p
    have hk' := hk
    unfold consA at p'
    cases q : f env S1 with
    | raise e S2 =>
      simp only [q, RE.bindA, RA.bind] at p'
      exact fun cls d F2 H2 ρ2 n2 r => p' cls d F2 H2 ρ2 ⟨n.stp.trans n2.stp, n2.sim⟩ r
    | stuck =>
      simp only [q, RE.bindA, RA.bind] at p'
      exact p'
    | ok x S2 =>
      simp only [q, RE.bindA] at p'
      intro v F2 H2 ρ2 n2 r
      cases q2 : x.fixed with
      | none => simp only [q2, RA.bind] at p'; exact p'.elim
      | some x' =>
        simp only [q2] at p'
        obtain ⟨F3, n3, sm, r3⟩ := n2.fixed n.sim.old r q2
        have n4 : Now K ca H0 env σ F H ρ F3 H2 ρ2 S2 := ⟨n.stp.trans n3.stp, n3.sim⟩
        refine tp_go fs n4 (fun xs S3 => k (x' :: xs) S3) ?_ _ fun xs S3 vs F4 H4 ρ4 e n5 st5 rs p5 => ?_
        · cases q3 : asL (fs.map (·.2)) env S2 with
          | ok xs S3 => simp only [q3, RA.bindA, RA.bind] at p' ⊢; exact p'
          | raise e S3 => simp only [q3, RA.bindA, RA.bind] at p' ⊢; exact p'
          | stuck => simp only [q3, RA.bindA, RA.bind] at p' ⊢; exact p'
        · refine hk (x' :: xs) S3 (v :: vs) F4 H4 ρ4 ?_ n5 (n3.stp.trans st5) (.cons (r3.step st5) (Paired.mapP rs fun a b z => z.base n3.stp.mono)) p5
          show consA f (asL (fs.map (·.2))) env S1 = _
          unfold consA
          simp only [q, RE.bindA, q2, e, RA.bindA]
theorem merge_nd : ∀ (more acc : List (Key × V)), (more.map (·.1)).Nodup → (∀ k, k ∈ more.map (·.1) → k ∉ acc.map (·.1)) → mergeK acc more = acc ++ more
  | [], acc, _, _ => by simp [mergeK]
  | kv :: more, acc, nd, dj => by
    obtain ⟨n1, n2⟩ := List.nodup_cons.mp nd
    have h0 : kv.1 ∉ acc.map (·.1) := dj kv.1 (by simp)
    have e : putK acc kv.1 kv.2 = acc ++ [kv] := by
      unfold putK
      rw [if_neg]
      intro h
      obtain ⟨z, hz, e⟩ := List.any_eq_true.mp h
      exact h0 (List.mem_map.mpr ⟨z, hz, of_decide_eq_true e⟩)
    show mergeK (putK acc kv.1 kv.2) more = _
    rw [e, merge_nd more _ n2 fun k hk hk2 => ?_]
    · simp
    · rw [List.map_append, List.mem_append] at hk2
      rcases hk2 with h | h
      · exact dj k (by rw [List.map_cons]; exact List.mem_cons_of_mem _ hk) h
      · simp at h
        rw [h] at hk
        exact n1 hk
theorem kv_zip {F : Hp} : ∀ (ks : List Str) {vs : List V} {ds : List PyData}, DrAll K F vs ds → ks.length = ds.length → DrKv K F ((ks.map Sum.inr).zip vs) ((ks.map PyData.str).zip ds)
  | [], _, _, .nil, _ => .nil
  | [], _, _, .cons _ _, h => by simp at h
  | k :: ks, _, _, .nil, h => by simp at h
  | k :: ks, _, _, .cons h r, e => .cons h (kv_zip ks r (by simpa using e))
theorem te_dict {fs : List (Str × DE)} {σ : L2.St} {H : Hp} (nd : (fs.map (·.1)).Nodup) (hz : fs.length ≤ 15) (h : dTE K ca W (dictE fs) σ H Q) : tDisp (fs.map fun p => (tC (.str p.1), dTE K ca W p.2)) σ H Q := by
  obtain ⟨H0, F, ρ, S, env, s, p⟩ := h
  intro pt hp
  have n : Now K ca H0 env σ F H ρ F (upd H pt (.dK [])) ρ S := ⟨Stp.alloc hp, s.alloc hp⟩
  refine tp_go fs n _ p _ fun xs S2 vs F2 H2 ρ2 e n2 st2 rs p2 => ?_
  have hl := asL_len _ _ _ _ _ e
  rw [List.length_map] at hl
  have hF : F2 pt = none := st2.unfz (s.unfz hp) upd_same
  have hr : pt ∉ ρ2 := st2.notin (s.notin hp) upd_same
  have hd : H2 pt = some (.dK []) := st2.fr _ _ (s.notin hp) upd_same
  have hv := Paired.length rs
  refine ⟨hd, ((fs.map (·.1)).map Sum.inr).zip vs, ?_, ?_, ?_⟩
  · clear p2 rs e st2 n2 hd hr hF n p
    have : ∀ (ks : List Str) (vs : List V), (ks.map V.str).zip vs = (((ks.map Sum.inr : List Key)).zip vs).map fun kv => (kV kv.1, kv.2) := fun ks => by
      induction ks with
      | nil => intro vs; rfl
      | cons k ks ih =>
        intro vs
        cases vs with
        | nil => rfl
        | cons v vs =>
          simp only [List.map_cons, List.zip_cons_cons, ih vs, kV]
    rw [← this, List.map_map]
    rfl
  · rw [List.length_zip, List.length_map, List.length_map]
    omega
  · cases q : allD xs with
    | none => simp only [q] at p2; exact p2.elim
    | some ds =>
      simp only [q] at p2
      obtain ⟨h1, h2⟩ := allD_rep rs q
      have mk : mergeK [] (((fs.map (·.1)).map Sum.inr).zip vs) = ((fs.map (·.1)).map Sum.inr).zip vs := by
        rw [merge_nd _ [] ?_ (fun _ _ h => by simp at h)]
        · rfl
        · have : (((fs.map (·.1)).map (Sum.inr : Str → Key)).zip vs).map (·.1) = (fs.map (·.1)).map Sum.inr := by
            have hz : ∀ (a : List Key) (b : List V), a.length ≤ b.length → (a.zip b).map (·.1) = a := fun a => by
              induction a with
              | nil => intro b _; rfl
              | cons x a ih =>
                intro b hb
                cases b with
                | nil => simp at hb
                | cons y b =>
                  rw [List.zip_cons_cons, List.map_cons, ih b (by simpa using hb)]
            exact hz _ _ (by rw [List.length_map, List.length_map]; omega)
          rw [this]
          exact List.Pairwise.map Sum.inr (fun a b hab z => hab (Sum.inr.inj z)) nd
      rw [mk]
      refine p2 (.ref pt) F2 _ ρ2 (n2.mutNew s.old hp hF hr (.inr trivial)) ⟨pt, _, rfl, hp, upd_same, hF, hr, ?_⟩
      have := kv_zip (K := K) (F := F2) (fs.map (·.1)) h1 (by rw [List.length_map]; omega)
      rw [show fs.map (fun p => PyData.str p.1) = (fs.map (·.1)).map PyData.str by rw [List.map_map]; rfl]
      exact this
end
end DL

set_option Elab.async false
set_option linter.all false
set_option maxRecDepth 100000
set_option maxHeartbeats 4000000
/-! DL14: the rules of dicts with text keys. -/
namespace DL
open PySem PySem.Spec PyProof.Rows L2

abbrev JPs (X : Cx) (ca : Str → Addr) (W : WX) (pos : Pos) (keys : List (Option Expr)) (vals : List Expr) (fs : List (Str × DE)) : Prop := PPs X pos keys vals (fs.map fun p => (tC (.str p.1), dTE X.K ca W p.2))
/-- o.get(e, f) -/
def get2E (fo fe ff : DE) : DE := fun env S => (fo env S).bind fun x S1 => match x with
  | .d (.dict ks) => (fe env S1).bind fun y S2 => (ff env S2).bind fun z S3 => match y, z with
    | .d (.str k), .d dz => .ok (.d ((lookD ks k).getD dz)) S3
    | _, _ => .stuck
  | _ => .stuck
/-- o[e], a dict -/
def dixE (fo fe : DE) : DE := RE2 (fun x y S => match x, y with
  | .d (.dict ks), .d (.str k) => match lookD ks k with
    | some d => .ok (.d d) S
    | none => .stuck
  | _, _ => .stuck) fo fe
section
variable {X : Cx} {ca : Str → Addr} {W : WX}
theorem jp_nil {pos : Pos} : JPs X ca W pos [] [] [] := pps_nil
theorem jp_cons {pos p : Pos} {j} {k : Str} {v : Expr} {f : DE} {ks : List (Option Expr)} {vs : List Expr} {fs : List (Str × DE)} (h : JE X ca W v f) (r : JPs X ca W pos ks vs fs) : JPs X ca W pos (some (.Constant (.str k) j p) :: ks) (v :: vs) ((k, f) :: fs) := pps_cons pe_str h r
theorem je_dict {pos : Pos} {keys : List (Option Expr)} {vals : List Expr} {fs : List (Str × DE)} (h : JPs X ca W pos keys vals fs) (nd : (fs.map (·.1)).Nodup := by decide) (hz : fs.length ≤ 15 := by decide) (hall : keys.all (·.isSome) = true := by rfl) (hl : keys.length = vals.length := by rfl) (h0 : keys ≠ [] := by exact fun z => nomatch z) (h15 : keys.length ≤ 15 := by decide) :
    JE X ca W (.Dict keys vals pos) (dictE fs) := imp_e (pe_disp h hall hl h0 h15) fun σ H Q h => te_dict nd hz h
theorem rd_dct {K : PySem.W.Frag} {F H : Hp} {v : V} {xs : List (PyData × PyData)} (f : Same F H) (r : Dr K F v (.dict xs)) : ∃ a ks, v = .ref a ∧ H a = some (.dK ks) ∧ DrKv K F ks xs := by
  cases r with
  | dct h r => exact ⟨_, _, rfl, f _ _ h, r⟩
theorem je_dget2 {o e f : Expr} {fo fe ff : DE} {apos cpos : Pos} (hu : X.A.units + 1 < cLine) (ho : JE X ca W o fo) (he : JE X ca W e fe) (hf : JE X ca W f ff) (m : M2 X o "get" apos e f cpos := by exact ⟨rfl, rfl, rfl, rfl⟩) :
    JE X ca W (.Call (.Attribute o "get" apos) [e, f] [] cpos) (get2E fo fe ff) := imp_e (pe_dget2 hu ho he hf m) fun σ H Q h =>
  te1 (k := fun env x S1 => match x with
  | .d (.dict ks) => (fe env S1).bind fun y S2 => (ff env S2).bind fun z S3 => match y, z with
    | .d (.str k), .d dz => .ok (.d ((lookD ks k).getD dz)) S3
    | _, _ => .stuck
  | _ => .stuck) h fun H0 F ρ S env s x S1 v F1 H1 ρ1 n r p => by
    cases x with
    | d x =>
      cases x with
      | dict xs =>
        obtain ⟨a, ks, e1, e2, r2⟩ := rd_dct n.sim.fz r
        refine ⟨a, e1, .inl ⟨ks, .of e2⟩, ?_⟩
        refine te2 n p fun y S2 v2 F2 H2 ρ2 n2 st2 ry p2 => te2 n2 p2 fun z S3 v3 F3 H3 ρ3 n3 st3 rz p3 => ?_
        have r3 : Dr X.K F3 v (.dict xs) := Dr.mono (st2.fz.trans st3.fz) r
        have e4 : H3 a = some (.dK ks) := by
          obtain ⟨a', ks', q1, q2, q3⟩ := rd_dct n3.sim.fz r3
          cases r with
          | dct g1 g2 =>
            cases e1
            have := n.sim.fz _ _ g1
            rw [e2] at this
            cases this
            exact n3.sim.fz _ _ (st3.fz _ _ (st2.fz _ _ g1))
        have rk : DrKv X.K F3 ks xs := DrKv.mono (st2.fz.trans st3.fz) r2
        cases y with
        | d y =>
          cases y with
          | str k =>
            cases z with
            | d dz =>
              have ry' : Dr X.K F2 v2 (.str k) := ry
              cases ry'
              refine ⟨valV ks (.inr k), .inl ⟨ks, .inr k, .of e4, rfl, rfl⟩, ?_⟩
              obtain ⟨g1, g2⟩ := look_rep (k := k) rk
              cases q : lookD xs k with
              | none =>
                rw [g2 q]
                simp only [q, Option.getD_none] at p3
                exact fin_d n3 p3 rz
              | some d =>
                obtain ⟨w, h1, h2⟩ := g1 d q
                rw [h1]
                simp only [q, Option.getD_some] at p3
                exact fin_d n3 p3 h2
            | _ => exact p3.elim
          | _ => exact p3.elim
        | _ => exact p3.elim
      | _ => exact p.elim
    | _ => exact p.elim
theorem je_dix {o e : Expr} {fo fe : DE} {pos : Pos} (hu : X.A.units + 1 < cLine) (ho : JE X ca W o fo) (he : JE X ca W e fe) (hs : NoSl e := by exact fun _ _ => rfl) :
    JE X ca W (.Subscript o e pos) (dixE fo fe) := imp_e (pe_dget hu ho he hs) fun σ H Q h =>
  te1 (k := fun env x S1 => (fe env S1).bind fun y S2 => match x, y with
  | .d (.dict ks), .d (.str k) => match lookD ks k with
    | some d => .ok (.d d) S2
    | none => .stuck
  | _, _ => .stuck) h fun H0 F ρ S env s x S1 v F1 H1 ρ1 n r p => te2 n p fun y S2 v2 F2 H2 ρ2 n2 st2 ry p2 => by
    cases x with
    | d x =>
      cases x with
      | dict xs =>
        cases y with
        | d y =>
          cases y with
          | str k =>
            have r2 : Dr X.K F2 v (.dict xs) := Dr.mono st2.fz r
            obtain ⟨a, ks, e1, e2, rk⟩ := rd_dct n2.sim.fz r2
            have ry' : Dr X.K F2 v2 (.str k) := ry
            cases ry'
            obtain ⟨g1, g2⟩ := look_rep (k := k) rk
            cases q : lookD xs k with
            | none =>
              simp only [q] at p2
              exact p2.elim
            | some d =>
              obtain ⟨w, h1, h2⟩ := g1 d q
              simp only [q] at p2
              exact ⟨a, w, e1, .inl ⟨ks, .inr k, .of e2, rfl, h1.symm⟩, fin_d n2 p2 h2⟩
          | _ => exact p2.elim
        | _ => exact p2.elim
      | _ => exact p2.elim
    | _ => exact p2.elim
end
end DL

set_option Elab.async false
set_option linter.all false
set_option maxRecDepth 100000
set_option maxHeartbeats 4000000
/-! DL15: ranges as arguments; a law's end; facts of names. -/
namespace DL
open PySem PySem.Spec PyProof.Rows L2

/-! ### tuple(range(e)), list(range(e)) -/
def rgG (lst : Bool) : PyData → Option EV
  | .int n => if -(2 ^ 62) ≤ n ∧ n ≤ 16777216 then some (if lst then .own (rngL 0 n.toNat) else .d (.tuple (rngL 0 n.toNat))) else none
  | _ => none
abbrev tupRgE : DE → DE := RE1 (vUn (rgG false))
abbrev lstRgE : DE → DE := RE1 (vUn (rgG true))
section
variable {X : Cx} {ca : Str → Addr} {W : WX} {a : Expr} {fa : DE}
theorem rng_rep {F : Hp} {n : Int} : DrAll X.K F (rgV 0 n) (rngL 0 n.toNat) := by
  unfold rgV rngL
  rw [Int.sub_zero]
  have : ∀ l : List Nat, DrAll X.K F (l.map fun i => V.int (0 + (i : Nat))) (l.map fun i => PyData.int (0 + (i : Nat))) := fun l => by
    induction l with
    | nil => exact .nil
    | cons x l ih => exact .cons (.int _) ih
  exact this _
theorem rg_ok {n : Int} (h : -(2 ^ 62) ≤ n ∧ n ≤ 16777216) : RgOk 0 n := ⟨by omega, by omega, h.1, by omega, by omega⟩
theorem unv_rgT : UnV X.K ca W (fun v H Q => ∃ n, v = .int n ∧ RgOk 0 n ∧ ∀ q, H q = none → Q (.ref q) (upd H q (.tup (rgV 0 n)))) (rgG false) := by
  intro H0 env σ F H ρ F' H' ρ' S' v1 a ev Q n r e p
  unfold rgG at e
  split at e
  · split at e
    · rename_i h
      cases e
      cases r
      exact ⟨_, rfl, rg_ok h, fun q hq => fin_t n p (rng_rep (X := X)) hq⟩
    · cases e
  · cases e
theorem unv_rgL : UnV X.K ca W (fun v H Q => ∃ n, v = .int n ∧ RgOk 0 n ∧ ∀ q, H q = none → Q (.ref q) (upd H q (.lst (rgV 0 n)))) (rgG true) := by
  intro H0 env σ F H ρ F' H' ρ' S' v1 a ev Q n r e p
  unfold rgG at e
  split at e
  · split at e
    · rename_i h
      cases e
      cases r
      exact ⟨_, rfl, rg_ok h, fun q hq => fin_l n p (rng_rep (X := X)) hq⟩
    · cases e
  · cases e
theorem je_tupRg {p p2 pos pos2 : Pos} (hc : X.calm = true) (hg : Gl X "tuple") (hm : X.mg "tuple" = none) (hg2 : Gl X "range") (hm2 : X.mg "range" = none) (h : JE X ca W a fa) (na : starEach [a] X.env = (false, eval a X.env) :: starEach [] X.env := by rfl)
    (nb : starEach [.Call (.Name "range" p2) [a] [] pos2] X.env = (false, eval (.Call (.Name "range" p2) [a] [] pos2) X.env) :: starEach [] X.env := by rfl) : JE X ca W (.Call (.Name "tuple" p) [.Call (.Name "range" p2) [a] [] pos2] [] pos) (tupRgE fa) :=
  imp_e (pe_tupRg hc hg hm (prg_1 hg2 hm2 h na) nb) fun σ H Q h => te_mono (fun x H1 ⟨n, e, r, q⟩ => ⟨n, e, r, q⟩) (te_un (r := fun v H Q => ∃ n, v = .int n ∧ RgOk 0 n ∧ ∀ q, H q = none → Q (.ref q) (upd H q (.tup (rgV 0 n)))) (unv_rgT (X := X)).d h)
theorem je_lstRg {p p2 pos pos2 : Pos} (hc : X.calm = true) (hg : Gl X "list") (hm : X.mg "list" = none) (hg2 : Gl X "range") (hm2 : X.mg "range" = none) (h : JE X ca W a fa) (na : starEach [a] X.env = (false, eval a X.env) :: starEach [] X.env := by rfl)
    (nb : starEach [.Call (.Name "range" p2) [a] [] pos2] X.env = (false, eval (.Call (.Name "range" p2) [a] [] pos2) X.env) :: starEach [] X.env := by rfl) : JE X ca W (.Call (.Name "list" p) [.Call (.Name "range" p2) [a] [] pos2] [] pos) (lstRgE fa) :=
  imp_e (pe_listRg hc hg hm (prg_1 hg2 hm2 h na) nb) fun σ H Q h => te_mono (fun x H1 ⟨n, e, r, q⟩ => ⟨n, e, r, q⟩) (te_un (r := fun v H Q => ∃ n, v = .int n ∧ RgOk 0 n ∧ ∀ q, H q = none → Q (.ref q) (upd H q (.lst (rgV 0 n)))) (unv_rgL (X := X)).d h)
end

/-! ### a def that is stuck keeps every promise -/
theorem jf_stuck {P : Program} {w : World} {K : PySem.W.Frag} {mg : Str → Option Value} {base : Heap} {ca : Str → Addr} {k : Nat} {f : Addr} {fd : FuncData} {ps : List Str} : JF P w K mg base ca k f fd ps (fun _ _ => .stuck) :=
  ⟨fun vs H Q E h => h.1, fun A outer s H args us vs Q E hr he hb hv h => by
    obtain ⟨_, F, ρ, S, evs, _, _, p⟩ := h
    exact p.elim⟩
theorem room65 {k : Nat} {A : Around} (r : Room k A) : A.units + 65 < cLine := by have := r.un; omega
theorem room1 {k : Nat} {A : Around} (r : Room k A) : A.units + 1 < cLine := by have := r.un; omega

/-! ### names -/
/-- a def of the module -/
structure Own (K : PySem.W.Frag) (mg : Str → Option Value) (x : Str) (st : Stmt) where
  f : Addr
  fd : FuncData
  fn : FunD K x x (defArgs st) (defBody st) (defScope st) [] [] f fd
  gl : mg x = some (.ref f)
/-- a global name that stands for a datum -/
structure Cst (K : PySem.W.Frag) (mg : Str → Option Value) (x : Str) (d : PyData) where
  v : V
  u : Value
  gl : mg x = some u
  rel : RelV v u
  dr : ∀ F, Dr K F v d
/-- .. flat data -/
def litB (K : PySem.W.Frag) (x : Str) : PyData → Bool
  | .int i => (He.Fa.int x i).ok K
  | .str z => (He.Fa.str x z).ok K
  | .tuple ds => (He.Fa.glo x).ok K && match flatVs ds with
    | some vs => He.tupB K x vs
    | none => false
  | _ => false
where
  flatVs : List PyData → Option (List He.Dv)
    | [] => some []
    | .int i :: r => (flatVs r).map (He.Dv.int i :: ·)
    | .str i :: r => (flatVs r).map (He.Dv.str i :: ·)
    | _ :: _ => none
theorem flatVs_ok {K : PySem.W.Frag} {F : Hp} : ∀ {ds : List PyData} {vs : List He.Dv}, litB.flatVs ds = some vs → DrAll K F (vs.map (He.Dv.v K)) ds
  | [], vs, h => by
    cases h
    exact .nil
  | d :: r, vs, h => by
    cases d with
    | int i =>
      obtain ⟨ws, e, e2⟩ := Option.map_eq_some_iff.mp h
      subst e2
      exact .cons (.int _) (flatVs_ok e)
    | str i =>
      obtain ⟨ws, e, e2⟩ := Option.map_eq_some_iff.mp h
      subst e2
      exact .cons (.str _) (flatVs_ok e)
    | _ => cases h
theorem lit_ok {K : PySem.W.Frag} {h : Heap} {mg : Str → Option Value} (X : K.In h) (G : h.Ns mainGlobals mg) {x : Str} {d : PyData} (c : litB K x d = true) : Nonempty (Cst K mg x d) := by
  unfold litB at c
  split at c
  · obtain ⟨t, e⟩ := He.int_ok X G c
    exact ⟨⟨.int _, _, e, ⟨t, rfl⟩, fun F => .int _⟩⟩
  · obtain ⟨t, e⟩ := He.str_ok X G c
    exact ⟨⟨.str _, _, e, ⟨t, rfl⟩, fun F => .str _⟩⟩
  · obtain ⟨c1, c2⟩ := Bool.and_eq_true_iff.mp c
    split at c2
    · rename_i vs e
      exact ⟨⟨.ref (He.ga K x), _, He.glo_ok X G c1, rfl, fun F => .tup (He.tupB_ok c2 F) (flatVs_ok e)⟩⟩
    · cases c2
  · cases c
/-! ### the head's hook: a check of one's own and the defs -/
def obsP (pr : PySem.W.Frag → Bool) (fn : List He.DefD) (K : PySem.W.Frag) : He.AlD := (pr K && fn.all fun d => d.ok K, fn.map fun d => He.fnW K d.at_)
def SaysP (pr : PySem.W.Frag → Bool) (fn : List He.DefD) (K : PySem.W.Frag) : Prop := obsP pr fn K = He.valD fn
def obsPG (n : Nat) (pr : PySem.W.Frag → Bool) (fn : List He.DefD) (g : Addr → Option Obj) : He.AlD := obsP pr fn (He.frG g (He.asD g n))
def hookP (n : Nat) (pr : PySem.W.Frag → Bool) (fn : List He.DefD) : PySem.W.Hook where
  α := He.AlD
  obs := fun s => obsPG n pr fn s.heap.get?
  val := fun _ => He.valD fn
  says := fun _ h => ∃ K : PySem.W.Frag, K.In h ∧ SaysP pr fn K
  of := fun _ _ e => ⟨_, He.frG_in, e⟩
  keeps := fun _ _ _ ⟨K, hK, c⟩ k => ⟨K, PySem.W.Frag.In.keeps hK k, c⟩
theorem obsPG_eq {n : Nat} {pr : PySem.W.Frag → Bool} {fn : List He.DefD} {g : Addr → Option Obj} {s : Shared} (h : ∀ a, g a = s.heap.get? a) : obsPG n pr fn g = (hookP n pr fn).obs s := by
  have e : g = s.heap.get? := funext h
  rw [e] <;> rfl
section
variable {pr : PySem.W.Frag → Bool} {fn : List He.DefD} {K : PySem.W.Frag}
theorem SaysP.chk (c : SaysP pr fn K) : pr K = true := (Bool.and_eq_true_iff.mp (show (pr K && fn.all fun d => d.ok K) = true from congrArg (fun z : He.AlD => z.1) c)).1
theorem SaysP.def_ (c : SaysP pr fn K) (i : Nat) {d : He.DefD} (h : fn[i]? = some d := by rfl) : ∃ fd, FunD K d.name d.qual d.params d.body d.scope (d.dvs K) (d.kws K) (He.fAd K d.at_) fd := by
  have c2 := (Bool.and_eq_true_iff.mp (show (pr K && fn.all fun d => d.ok K) = true from congrArg (fun z : He.AlD => z.1) c)).2
  have e : fn.map (fun d => He.fnW K d.at_) = fn.map He.DefD.val := congrArg (fun z : He.AlD => z.2) c
  have e2 : (fn.map fun d => He.fnW K d.at_)[i]? = (fn.map He.DefD.val)[i]? := by rw [e]
  rw [List.getElem?_map, List.getElem?_map, h] at e2
  exact He.DefD.funD (Option.some.inj e2) (List.all_eq_true.mp c2 d (List.mem_of_getElem? h))
end
/-! ### the end -/
/-- what a law lets out, whatever the world -/
def CXw (P : Program) : CXT := fun outer H s E u s' => ∃ w, L2.CX P w outer H s E u s'
theorem cxw_no {P : Program} (H : Hp) (s : Shared) (e : Value) (s' : Shared) (h : CXw P [] H s (fun _ _ _ => False) e s') : False := by
  obtain ⟨w, a, B, H', cls, d, _, _, _, _, _, _, _, z⟩ := h
  exact z
theorem jf_w {P : Program} {w : World} {K : PySem.W.Frag} {mg : Str → Option Value} {base : Heap} {ca : Str → Addr} {k : Nat} {f : Addr} {fd : FuncData} {ps : List Str} {Ff : DF} (j : JF P w K mg base ca k f fd ps Ff) : FnOk P w K mg base (CXw P) k f fd ps (spD K ca ps.length Ff) :=
  ⟨j.len, fun A outer s H args us vs Q E hr he hb hv h => codeAny_mono (j.run A outer s H args us vs Q E hr he hb hv h) fun r s' => by
    cases r with
    | ok r => cases r <;> exact fun z => z
    | error e => exact fun z => ⟨w, z⟩⟩
/-- the law's own promise: from what its def reckons on a script -/
theorem sp_law {K : PySem.W.Frag} {ca : Str → Addr} {Ff : DF} (h : ∀ ns : List Int, ns.length ≤ 63 → ∃ S', Ff [.scr ns] [] = .ok (.d (.bool true)) S') (H : Hp) (a : Addr) (ns : List Int) (hl : ns.length ≤ 63) (hs : SqL K H a (ns.map V.int)) :
    spD K ca 1 Ff [.ref a] H (fun v _ => v = .bl true) fun _ _ _ => False := by
  obtain ⟨S', e⟩ := h ns hl
  refine ⟨rfl, H, [], [], [.scr ns], ⟨Same.refl _, rfl, List.nodup_nil, fun _ h => (by cases h), fun l b c h => (by simp at h), rfl, fun i ev h => (by simp at h), fun i j ei ej b h => (by simp at h)⟩, .cons ⟨⟨a, rfl, hs⟩, rfl⟩ .nil, ?_⟩
  rw [e]
  intro v F' H' ρ' st s r
  cases r
  rfl
end DL

set_option Elab.async false
set_option linter.all false
set_option maxRecDepth 100000
set_option maxHeartbeats 4000000
/-! DL16: the reckoning of denotations: rewriting, loops. -/
namespace DL
open PySem PySem.Spec PyProof.Rows L2

section
variable {S S' : Store} {v : EV} {vs : List EV} {e : Exc} {env env' : Env} {b : Bool} {x y : PyData}
@[simp] theorem RE.bind_ok {k} : (RE.ok v S).bind k = k v S := rfl
@[simp] theorem RE.bind_raise {k} : (RE.raise e S).bind k = .raise e S := rfl
@[simp] theorem RE.bind_stuck {k} : RE.stuck.bind k = .stuck := rfl
@[simp] theorem RE.bindA_ok {k} : (RE.ok v S).bindA k = k v S := rfl
@[simp] theorem RE.bindA_raise {k} : (RE.raise e S).bindA k = .raise e S := rfl
@[simp] theorem RE.bindA_stuck {k} : RE.stuck.bindA k = .stuck := rfl
@[simp] theorem RA.bind_ok {k} : (RA.ok vs S).bind k = k vs S := rfl
@[simp] theorem RA.bind_raise {k} : (RA.raise e S).bind k = .raise e S := rfl
@[simp] theorem RA.bind_stuck {k} : RA.stuck.bind k = .stuck := rfl
@[simp] theorem RA.bindA_ok {k} : (RA.ok vs S).bindA k = k vs S := rfl
@[simp] theorem RA.bindA_raise {k} : (RA.raise e S).bindA k = .raise e S := rfl
@[simp] theorem RA.bindA_stuck {k} : RA.stuck.bindA k = .stuck := rfl
@[simp] theorem RE.bindS_ok {k} : (RE.ok v S).bindS env k = k v S := rfl
@[simp] theorem RE.bindS_raise {k} : (RE.raise e S).bindS env k = .raise e env S := rfl
@[simp] theorem RE.bindS_stuck {k} : RE.stuck.bindS env k = .stuck := rfl
@[simp] theorem RE.bindB_ok {k} : (RE.ok (.d (.bool b)) S).bindB k = k b S := rfl
@[simp] theorem RE.bindB_raise {k} : (RE.raise e S).bindB k = .raise e S := rfl
@[simp] theorem RE.bindB_stuck {k} : RE.stuck.bindB k = .stuck := rfl
@[simp] theorem RE.bindBS_ok {k} : (RE.ok (.d (.bool b)) S).bindBS env k = k b S := rfl
@[simp] theorem RE.bindBS_raise {k} : (RE.raise e S).bindBS env k = .raise e env S := rfl
@[simp] theorem RE.bindBS_stuck {k} : RE.stuck.bindBS env k = .stuck := rfl
@[simp] theorem RS.bind_next {k} : (RS.next env S).bind k = k env S := rfl
@[simp] theorem RS.bind_ret {k} : (RS.ret v S).bind k = .ret v S := rfl
@[simp] theorem RS.bind_raise {k} : (RS.raise e env S).bind k = .raise e env S := rfl
@[simp] theorem RS.bind_brk {k} : (RS.brk env S).bind k = .brk env S := rfl
@[simp] theorem RS.bind_cont {k} : (RS.cont env S).bind k = .cont env S := rfl
@[simp] theorem RS.bind_stuck {k} : RS.stuck.bind k = .stuck := rfl
@[simp] theorem endF_next : endF (.next env S) = .ok (.d .none) S := rfl
@[simp] theorem endF_ret : endF (.ret v S) = .ok v S := rfl
@[simp] theorem endF_raise : endF (.raise e env S) = .raise e S := rfl
@[simp] theorem bE_d : bE b = .d (.bool b) := rfl
@[simp] theorem iE_d {i : Int} : iE i = .d (.int i) := rfl
@[simp] theorem seqS_ap {g1 g2 : DS} : seqS g1 g2 env S = (g1 env S).bind g2 := rfl
@[simp] theorem nopS_ap : nopS env S = .next env S := rfl
@[simp] theorem retS_ap {f : DE} : retS f env S = (f env S).bindS env fun x S1 => .ret x.moved S1 := rfl
@[simp] theorem retN_ap : retN env S = .ret (.d .none) S := rfl
@[simp] theorem exprS_ap {f : DE} : exprS f env S = (f env S).bindS env fun _ S1 => .next env S1 := rfl
@[simp] theorem ifS_ap {t : DE} {a c : DS} : ifS t a c env S = (t env S).bindBS env fun k S1 => if k = true then a env S1 else c env S1 := rfl
@[simp] theorem asgF_ap {f : DE} {i : Nat} : asgF i f env S = (f env S).bindS env fun x S1 => match x.fixed with
  | some ev => .next (env.set i (some ev)) S1
  | none => .stuck := rfl
@[simp] theorem asgO_ap {f : DE} {i : Nat} : asgO i f env S = (f env S).bindS env fun x S1 => match x.kept with
  | some ev => .next (env.set i (some ev)) S1
  | none => .stuck := rfl
@[simp] theorem asgG_ap {t : DG} {f : DE} : asgG t f env S = (f env S).bindS env fun x S1 => match x.fixed with
  | some ev => match t ev env with
    | some env' => .next env' S1
    | none => .stuck
  | none => .stuck := rfl
@[simp] theorem parO_ap {i j : Nat} {f g : DE} : parO i j f g env S = (f env S).bindS env fun x S1 => (g env S1).bindS env fun y S2 => match x.kept, y.kept with
  | some a, some b => if i ≠ j then .next ((env.set i (some a)).set j (some b)) S2 else .stuck
  | _, _ => .stuck := rfl
@[simp] theorem frzS_ap {i : Nat} {g : DS} : frzS i g env S = g (env.frz i) S := rfl
@[simp] theorem fixed_d : (EV.d x).fixed = some (.d x) := rfl
@[simp] theorem fixed_ownL {xs : List PyData} : (EV.own xs).fixed = some (.d (.list xs)) := rfl
@[simp] theorem fixed_bor {xs : List PyData} : (EV.bor xs).fixed = none := rfl
@[simp] theorem fixed_ref {l : Nat} : (EV.ref l).fixed = some (.ref l) := rfl
@[simp] theorem fixed_scr {ns : List Int} : (EV.scr ns).fixed = some (.scr ns) := rfl
@[simp] theorem fixed_opq {w : V} : (EV.opq w).fixed = some (.opq w) := rfl
@[simp] theorem fixed_fn {x : Str} : (EV.fn x).fixed = some (.fn x) := rfl
@[simp] theorem fixed_ownD {ks} : (EV.ownD ks).fixed = some (.d (.dict ks)) := rfl
@[simp] theorem kept_d : (EV.d x).kept = some (.d x) := rfl
@[simp] theorem kept_own {xs : List PyData} : (EV.own xs).kept = some (.own xs) := rfl
@[simp] theorem kept_ref {l : Nat} : (EV.ref l).kept = some (.ref l) := rfl
@[simp] theorem kept_scr {ns : List Int} : (EV.scr ns).kept = some (.scr ns) := rfl
@[simp] theorem kept_opq {w : V} : (EV.opq w).kept = some (.opq w) := rfl
@[simp] theorem kept_fn {x : Str} : (EV.fn x).kept = some (.fn x) := rfl
@[simp] theorem kept_ownD {ks} : (EV.ownD ks).kept = some (.ownD ks) := rfl
@[simp] theorem moved_d : (EV.d x).moved = .d x := rfl
@[simp] theorem moved_own {xs : List PyData} : (EV.own xs).moved = .own xs := rfl
@[simp] theorem moved_bor {xs : List PyData} : (EV.bor xs).moved = .own xs := rfl
@[simp] theorem moved_ref {l : Nat} : (EV.ref l).moved = .ref l := rfl
@[simp] theorem moved_scr {ns : List Int} : (EV.scr ns).moved = .scr ns := rfl
@[simp] theorem moved_opq {w : V} : (EV.opq w).moved = .opq w := rfl
@[simp] theorem moved_fn {x : Str} : (EV.fn x).moved = .fn x := rfl
@[simp] theorem moved_ownD {ks} : (EV.ownD ks).moved = .ownD ks := rfl
@[simp] theorem read_d : (EV.d x).read = .d x := rfl
@[simp] theorem read_own {xs : List PyData} : (EV.own xs).read = .bor xs := rfl
@[simp] theorem read_ref {l : Nat} : (EV.ref l).read = .ref l := rfl
@[simp] theorem read_scr {ns : List Int} : (EV.scr ns).read = .scr ns := rfl
@[simp] theorem read_opq {w : V} : (EV.opq w).read = .opq w := rfl
@[simp] theorem read_fn {x : Str} : (EV.fn x).read = .fn x := rfl
@[simp] theorem read_ownD {ks} : (EV.ownD ks).read = .borD ks := rfl
@[simp] theorem view_d : (EV.d x).view S = some x := rfl
@[simp] theorem view_own {xs : List PyData} : (EV.own xs).view S = some (.list xs) := rfl
@[simp] theorem view_bor {xs : List PyData} : (EV.bor xs).view S = some (.list xs) := rfl
theorem view_ref {l : Nat} {xs : List PyData} (h : S[l]? = some (.lst xs)) : (EV.ref l).view S = some (.list xs) := by unfold EV.view; simp only [h]
@[simp] theorem cE_ap : cE x env S = .ok (.d x) S := rfl
@[simp] theorem cO_ap {w : V} : cO w env S = .ok (.opq w) S := rfl
@[simp] theorem rdE_ap {i : Nat} : rdE i env S = match env[i]? with
  | some (some ev) => .ok ev.read S
  | _ => .stuck := by unfold rdE; cases env[i]? with
  | none => rfl
  | some o => cases o <;> rfl
@[simp] theorem RE2_ap {k} {fa fb : DE} : RE2 k fa fb env S = (fa env S).bind fun x S1 => (fb env S1).bind fun y S2 => k x y S2 := rfl
@[simp] theorem RE1_ap {k} {fa : DE} : RE1 k fa env S = (fa env S).bind k := rfl
@[simp] theorem toRE_some : toRE S (some v) = .ok v S := rfl
@[simp] theorem toRE_none : toRE S none = .stuck := rfl
@[simp] theorem vOp_ap {g} {a c : EV} : vOp g a c S = match a.view S, c.view S with
  | some a, some b => toRE S (g a b)
  | _, _ => .stuck := rfl
@[simp] theorem vUn_ap {g} {a : EV} : vUn g a S = match a.view S with
  | some a => toRE S (g a)
  | none => .stuck := rfl
@[simp] theorem andE_ap {fa fb : DE} : andE fa fb env S = (fa env S).bindB fun k S1 => if k = true then fb env S1 else .ok (bE false) S1 := rfl
@[simp] theorem orE_ap {fa fb : DE} : orE fa fb env S = (fa env S).bindB fun k S1 => if k = true then .ok (bE true) S1 else fb env S1 := rfl
@[simp] theorem notE_ap {fa : DE} : notE fa env S = (fa env S).bindB fun k S1 => .ok (bE (!k)) S1 := rfl
@[simp] theorem ifE_ap {ft fa fb : DE} : ifE ft fa fb env S = (ft env S).bindB fun k S1 => if k = true then fa env S1 else fb env S1 := rfl
@[simp] theorem asL_nil : asL [] env S = .ok [] S := rfl
@[simp] theorem asL_cons {f : DE} {fs : List DE} : asL (f :: fs) env S = (f env S).bindA fun x S1 => match x.fixed with
  | some x' => (asL fs env S1).bindA fun xs S2 => .ok (x' :: xs) S2
  | none => .stuck := by
  show consA f (asL fs) env S = _
  unfold consA
  rfl
@[simp] theorem allD_nil : allD [] = some [] := rfl
@[simp] theorem allD_cons {xs : List EV} : allD (.d x :: xs) = (allD xs).map (x :: ·) := by
  conv => lhs; unfold allD
  cases h : allD xs <;> simp [EV.dat, h]
@[simp] theorem tupE_ap {fs : List DE} : tupE fs env S = (asL fs env S).bind fun xs S1 => match allD xs with
  | some ds => .ok (.d (.tuple ds)) S1
  | none => .stuck := rfl
@[simp] theorem lstE_ap {fs : List DE} : lstE fs env S = (asL fs env S).bind fun xs S1 => match allD xs with
  | some ds => .ok (.own ds) S1
  | none => .stuck := rfl
@[simp] theorem dictE_ap {fs : List (Str × DE)} : dictE fs env S = (asL (fs.map (·.2)) env S).bind fun xs S1 => match allD xs with
  | some ds => .ok (.ownD ((fs.map fun p => PyData.str p.1).zip ds)) S1
  | none => .stuck := rfl
@[simp] theorem callE_ap {F : DF} {as : DA} : callE F as env S = (as env S).bind F := rfl
@[simp] theorem refE_ap {f : DE} : refE f env S = (f env S).bind fun x S1 => match x with
  | .own xs => .ok (.ref S1.length) (S1 ++ [.lst xs])
  | _ => .stuck := rfl
@[simp] theorem chE_ap {g g'} {fa fb fc : DE} : chE g g' fa fb fc env S = (fa env S).bind fun x S1 => (fb env S1).bind fun y S2 => (vOp g x y S2).bindB fun k S3 => if k = true then (fc env S3).bind fun z S4 => vOp g' y z S4 else .ok (bE false) S3 := rfl
@[simp] theorem slE_ap {f : DE} {lo hi : Option DE} : slE f lo hi env S = (f env S).bind fun x S1 => (partE lo env S1).bind fun l S2 => (partE hi env S2).bind fun u S3 => kSl x l u S3 := rfl
@[simp] theorem partE_none : partE none env S = .ok (.d .none) S := rfl
@[simp] theorem partE_some {f : DE} : partE (some f) env S = (f env S).bind fun v S1 => match v with
    | .d (.int i) => .ok (.d (.int i)) S1
    | _ => .stuck := rfl
@[simp] theorem kSl_ap {a l u : EV} : kSl a l u S = match a.view S, evOpt l, evOpt u with
  | some a, some lo, some hi => toRE S (slG a lo hi)
  | _, _, _ => .stuck := rfl
@[simp] theorem evOpt_none : evOpt (.d .none) = some none := rfl
@[simp] theorem evOpt_int {i : Int} : evOpt (.d (.int i)) = some (some i) := rfl
@[simp] theorem itE_ap {f : DE} : itE f env S = (f env S).bind fun x S1 => match x.fixed with
  | some (.d y) => match itemsG y with
    | some xs => .ok (.d (.list xs)) S1
    | none => .stuck
  | _ => .stuck := by
  unfold itE
  rfl
@[simp] theorem itemsG_list {xs : List PyData} : itemsG (.list xs) = some xs := rfl
@[simp] theorem itemsG_tuple {xs : List PyData} : itemsG (.tuple xs) = some xs := rfl
@[simp] theorem forS_ap {f : DE} {t : DG} {g : DS} : forS f t g env S = (f env S).bindS env fun x S1 => match x with
  | .d (.list xs) => forD t g xs env S1
  | _ => .stuck := rfl
@[simp] theorem lcE_ap {f : DE} {is : List Nat} {t : DG} {test : Option DE} {elt : DE} : lcE f is t test elt env S = (f env S).bind fun x S1 => match x with
  | .d (.list xs) => lcD t test elt (wipeE env is) xs [] S1
  | _ => .stuck := rfl
@[simp] theorem wipeE_nil : wipeE env [] = env := rfl
@[simp] theorem wipeE_cons {i : Nat} {is : List Nat} : wipeE env (i :: is) = (wipeE env is).set i none := rfl
@[simp] theorem tgN_ap {i : Nat} : tgN i v env = some (env.set i (some v)) := rfl
@[simp] theorem tgT_ap {is : List Nat} {ds : List PyData} : tgT is (.d (.tuple ds)) env = setAll is ds env := rfl
@[simp] theorem tgL_ap {is : List Nat} {ds : List PyData} : tgL is (.d (.list ds)) env = setAll is ds env := rfl
@[simp] theorem setAll_nil : setAll [] [] env = some env := rfl
@[simp] theorem setAll_cons {i : Nat} {is : List Nat} {ds : List PyData} : setAll (i :: is) (x :: ds) env = setAll is ds (env.set i (some (.d x))) := rfl
@[simp] theorem tstD_none : tstD none env S = .ok (bE true) S := rfl
@[simp] theorem tstD_some {f : DE} : tstD (some f) env S = f env S := rfl
@[simp] theorem kIx_d {a c : PyData} : kIx (.d a) (.d c) S = toRE S (ixG a c) := rfl
@[simp] theorem kIx_bor {xs : List PyData} {c : PyData} : kIx (.bor xs) (.d c) S = toRE S (ixG (.list xs) c) := rfl
@[simp] theorem kIx_own {xs : List PyData} {c : PyData} : kIx (.own xs) (.d c) S = toRE S (ixG (.list xs) c) := rfl
theorem kIx_ref {l : Nat} {xs : List PyData} {c : PyData} (h : S[l]? = some (.lst xs)) : kIx (.ref l) (.d c) S = toRE S (ixG (.list xs) c) := by
  show vOp ixG (.ref l) (.d c) S = _
  rw [vOp_ap, view_ref h]
  rfl
@[simp] theorem kIx_scr {ns : List Int} {i : Int} : kIx (.scr ns) (.d (.int i)) S = match atI ns i with
    | some n => .ok (.d (.int n)) S
    | none => .stuck := rfl
@[simp] theorem kLen_d {a : PyData} : kLen (.d a) S = toRE S (lenG a) := rfl
@[simp] theorem kLen_bor {xs : List PyData} : kLen (.bor xs) S = .ok (.d (.int xs.length)) S := rfl
@[simp] theorem kLen_own {xs : List PyData} : kLen (.own xs) S = .ok (.d (.int xs.length)) S := rfl
@[simp] theorem kLen_scr {ns : List Int} : kLen (.scr ns) S = .ok (.d (.int ns.length)) S := rfl
@[simp] theorem lenG_list {xs : List PyData} : lenG (.list xs) = some (.d (.int xs.length)) := rfl
@[simp] theorem lenG_tuple {xs : List PyData} : lenG (.tuple xs) = some (.d (.int xs.length)) := rfl
theorem lenG_str {z : Str} (h : z.length ≤ 1000) : lenG (.str z) = some (.d (.int z.length)) := by
  unfold lenG
  simp only
  rw [if_pos (by unfold LIM; omega)]
  rfl
@[simp] theorem subG_int {i j : Int} : subG (.int i) (.int j) = some (.d (.int (i - j))) := rfl
@[simp] theorem ltG_int {i j : Int} : ltG (.int i) (.int j) = some (.d (.bool (decide (i < j)))) := rfl
@[simp] theorem leG_int {i j : Int} : leG (.int i) (.int j) = some (.d (.bool (decide (i ≤ j)))) := rfl
@[simp] theorem gtG_int {i j : Int} : gtG (.int i) (.int j) = some (.d (.bool (decide (j < i)))) := rfl
@[simp] theorem geG_int {i j : Int} : geG (.int i) (.int j) = some (.d (.bool (decide (j ≤ i)))) := rfl
@[simp] theorem addG_int {i j : Int} : addG (.int i) (.int j) = some (.d (.int (i + j))) := rfl
theorem addG_list {xs ys : List PyData} (h : xs.length + ys.length ≤ 100000) : addG (.list xs) (.list ys) = some (.own (xs ++ ys)) := by
  unfold addG
  simp only
  rw [if_pos (by unfold LIM; omega)]
theorem addG_tuple {xs ys : List PyData} (h : xs.length + ys.length ≤ 100000) : addG (.tuple xs) (.tuple ys) = some (.d (.tuple (xs ++ ys))) := by
  unfold addG
  simp only
  rw [if_pos (by unfold LIM; omega)]
@[simp] theorem modG_int {i j : Int} : modG (.int i) (.int j) = if 0 < j then some (.d (.int (i % j))) else none := rfl
@[simp] theorem divG_int {i j : Int} : divG (.int i) (.int j) = if 0 < j ∧ j < 1073741824 then some (.d (.int (i / j))) else none := rfl
@[simp] theorem mulG_int {i j : Int} : mulG (.int i) (.int j) = if (-(2 ^ 64) < i ∧ i < 2 ^ 64) ∨ (-(2 ^ 64) < j ∧ j < 2 ^ 64) then some (.d (.int (i * j))) else none := rfl
@[simp] theorem intG_int {i : Int} : intG (.int i) = some (.d (.int i)) := rfl
@[simp] theorem intG_bool : intG (.bool b) = some (.d (.int (if b then 1 else 0))) := rfl
@[simp] theorem tupG_list {xs : List PyData} : tupG (.list xs) = some (.d (.tuple xs)) := rfl
@[simp] theorem tupG_tuple {xs : List PyData} : tupG (.tuple xs) = some (.d (.tuple xs)) := rfl
@[simp] theorem listG_list {xs : List PyData} : listG (.list xs) = some (.own xs) := rfl
@[simp] theorem listG_tuple {xs : List PyData} : listG (.tuple xs) = some (.own xs) := rfl
@[simp] theorem slG_list {xs : List PyData} {lo hi : Option Int} : slG (.list xs) lo hi = some (.own (cutD xs lo hi)) := rfl
@[simp] theorem slG_tuple {xs : List PyData} {lo hi : Option Int} : slG (.tuple xs) lo hi = some (.d (.tuple (cutD xs lo hi))) := rfl
@[simp] theorem minG_int {i j : Int} : minG (.int i) (.int j) = some (.d (.int (if j < i then j else i))) := rfl
@[simp] theorem maxG_int {i j : Int} : maxG (.int i) (.int j) = some (.d (.int (if j > i then j else i))) := rfl
@[simp] theorem isiG_ap {T : String} : isiG T x = some (.d (.bool (tyD x == T || (tyD x == "bool" && T == "int")))) := rfl
@[simp] theorem tyD_none : tyD .none = "NoneType" := rfl
@[simp] theorem tyD_bool : tyD (.bool b) = "bool" := rfl
@[simp] theorem tyD_int {i : Int} : tyD (.int i) = "int" := rfl
@[simp] theorem tyD_str {z : Str} : tyD (.str z) = "str" := rfl
@[simp] theorem tyD_list {xs : List PyData} : tyD (.list xs) = "list" := rfl
@[simp] theorem tyD_tuple {xs : List PyData} : tyD (.tuple xs) = "tuple" := rfl
@[simp] theorem tyD_dict {xs} : tyD (.dict xs) = "dict" := rfl
@[simp] theorem negG_int {i : Int} : negG (.int i) = some (.d (.int (-i))) := rfl
@[simp] theorem ixG_list {xs : List PyData} {i : Int} : ixG (.list xs) (.int i) = (atI xs i).map .d := rfl
@[simp] theorem ixG_tuple {xs : List PyData} {i : Int} : ixG (.tuple xs) (.int i) = (atI xs i).map .d := rfl
/-- comparisons of flat data -/
theorem canLay_shaped {a : PyData} (h : a.canLay0 = true) (hd : a.depth ≤ 64) : SeqAt.shaped a = true := by
  unfold SeqAt.shaped
  rw [h, decide_eq_true hd]
  rfl
@[simp] theorem shaped_none : SeqAt.shaped .none = true := by decide
@[simp] theorem shaped_int {i : Int} : SeqAt.shaped (.int i) = true := by
  refine canLay_shaped ?_ ?_ <;> simp [PyData.canLay0, PyData.depth]
@[simp] theorem shaped_bool : SeqAt.shaped (.bool b) = true := by
  refine canLay_shaped ?_ ?_ <;> simp [PyData.canLay0, PyData.depth]
@[simp] theorem eqG_int {i j : Int} : eqG (.int i) (.int j) = some (.d (.bool (i == j))) := by
  unfold eqG
  simp [PyData.eqv]
@[simp] theorem neG_int {i j : Int} : neG (.int i) (.int j) = some (.d (.bool (i != j))) := by
  unfold neG
  simp [PyData.eqv, bne]
theorem eqG_sh {a c : PyData} (h : SeqAt.shaped a = true) (h2 : SeqAt.shaped c = true) : eqG a c = some (.d (.bool (PyData.eqv a c))) := by
  unfold eqG
  rw [if_pos ⟨h, h2⟩]
  rfl
theorem neG_sh {a c : PyData} (h : SeqAt.shaped a = true) (h2 : SeqAt.shaped c = true) : neG a c = some (.d (.bool (!PyData.eqv a c))) := by
  unfold neG
  rw [if_pos ⟨h, h2⟩]
  rfl
theorem inG_list {neg : Bool} {a : PyData} {ds : List PyData} (h : SeqAt.shaped a = true) (h2 : SeqAt.shaped (.list ds) = true) : inG neg a (.list ds) = some (.d (.bool (if neg then !(ds.any fun z => PyData.eqv z a) else ds.any fun z => PyData.eqv z a))) := by
  unfold inG
  simp only
  rw [if_pos ⟨h, h2⟩]
  rfl
theorem inG_tup {neg : Bool} {a : PyData} {ds : List PyData} (h : flatD a = true) (h2 : ds.all flatD = true) : inG neg a (.tuple ds) = some (.d (.bool (if neg then !(ds.any fun z => PyData.eqv z a) else ds.any fun z => PyData.eqv z a))) := by
  unfold inG
  simp only
  rw [if_pos ⟨h, h2⟩]
  rfl
@[simp] theorem atI_zero {α : Type} {x : α} {xs : List α} : atI (x :: xs) 0 = some x := by
  unfold atI ixN
  simp
theorem ixN_nat {n k : Nat} (h : k < n) : ixN n (k : Int) = some k := by
  unfold ixN
  have h1 : ((k : Int) < (n : Int)) := by omega
  simp [h1]
theorem atI_nat {α : Type} {xs : List α} {k : Nat} (h : k < xs.length) : atI xs (k : Int) = some xs[k] := by
  unfold atI
  rw [ixN_nat h]
  simp [h]
@[simp] theorem atI_one {α : Type} {x y : α} {xs : List α} : atI (x :: y :: xs) 1 = some y := by
  have := atI_nat (xs := x :: y :: xs) (k := 1) (by simp)
  simpa using this
end
/-! ### loops -/
/-- a for that turns over all its items -/
theorem forD_inv {α : Type} {t : DG} {g : DS} (R : α → Env → Store → Prop) (step : α → PyData → α) : ∀ (xs : List PyData), (∀ a env S d, d ∈ xs → R a env S → ∃ env1, t (.d d) env = some env1 ∧ ∃ env2 S2, (g env1 S = .next env2 S2 ∨ g env1 S = .cont env2 S2) ∧ R (step a d) env2 S2) →
    ∀ a env S, R a env S → ∃ env' S', forD t g xs env S = .next env' S' ∧ R (xs.foldl step a) env' S'
  | [], _, a, env, S, r => ⟨env, S, rfl, r⟩
  | d :: ds, h, a, env, S, r => by
    obtain ⟨env1, e1, env2, S2, e2, r2⟩ := h a env S d List.mem_cons_self r
    obtain ⟨env', S', e3, r3⟩ := forD_inv R step ds (fun a env S d hd => h a env S d (List.mem_cons_of_mem _ hd)) _ env2 S2 r2
    refine ⟨env', S', ?_, r3⟩
    unfold forD
    simp only [e1]
    rcases e2 with e2 | e2
    · simp only [e2]; exact e3
    · simp only [e2]; exact e3
/-- a for, in general: what holds of what is left -/
theorem forD_hoare {t : DG} {g : DS} (I : List PyData → Env → Store → Prop) (Post : RS → Prop) (hnil : ∀ env S, I [] env S → Post (.next env S))
    (hcons : ∀ d ds env S, I (d :: ds) env S → ∃ env1, t (.d d) env = some env1 ∧ match g env1 S with
      | .next e s => I ds e s
      | .cont e s => I ds e s
      | .brk e s => Post (.next e s)
      | .ret v s => Post (.ret v s)
      | .raise x e s => Post (.raise x e s)
      | .stuck => False) : ∀ xs env S, I xs env S → Post (forD t g xs env S)
  | [], env, S, h => hnil env S h
  | d :: ds, env, S, h => by
    obtain ⟨env1, e1, h2⟩ := hcons d ds env S h
    unfold forD
    simp only [e1]
    revert h2
    cases q : g env1 S with
    | next e s => exact fun h2 => forD_hoare I Post hnil hcons ds e s h2
    | cont e s => exact fun h2 => forD_hoare I Post hnil hcons ds e s h2
    | brk e s => exact fun h2 => h2
    | ret v s => exact fun h2 => h2
    | raise x e s => exact fun h2 => h2
    | stuck => exact fun h2 => h2.elim
/-- a comprehension: each item's test and element are reckoned, the store stays -/
theorem lcD_pure {t : DG} {test : Option DE} {elt : DE} {env : Env} {S : Store} {p : PyData → Bool} {f : PyData → PyData} : ∀ (xs acc : List PyData), (∀ d, d ∈ xs → ∃ env1, t (.d d) env = some env1 ∧ tstD test env1 S = .ok (.d (.bool (p d))) S ∧ (p d = true → ∃ v, elt env1 S = .ok v S ∧ v.fixed = some (.d (f d)))) →
    acc.length + xs.length ≤ 100000 → lcD t test elt env xs acc S = .ok (.own (acc ++ (xs.filter p).map f)) S
  | [], acc, _, _ => by simp [lcD]
  | d :: ds, acc, h, hl => by
    obtain ⟨env1, e1, e2, e3⟩ := h d List.mem_cons_self
    have hl' : acc.length + (ds.length + 1) ≤ 100000 := hl
    unfold lcD
    simp only [e1, e2]
    cases q : p d with
    | false =>
      simp only
      rw [lcD_pure ds acc (fun d hd => h d (List.mem_cons_of_mem _ hd)) (by omega), List.filter_cons_of_neg (by simp [q])]
    | true =>
      obtain ⟨v, e4, e5⟩ := e3 q
      simp only [e4, e5]
      rw [if_pos (by unfold LIM; omega), lcD_pure ds _ (fun d hd => h d (List.mem_cons_of_mem _ hd)) (by simp; omega), List.filter_cons_of_pos q]
      simp
/-- .. in general -/
theorem lcD_hoare {t : DG} {test : Option DE} {elt : DE} {env : Env} (I : List PyData → List PyData → Store → Prop) (Post : RE → Prop) (hnil : ∀ acc S, I [] acc S → Post (.ok (.own acc) S))
    (hcons : ∀ d ds acc S, I (d :: ds) acc S → ∃ env1, t (.d d) env = some env1 ∧ ∃ b S1, tstD test env1 S = .ok (.d (.bool b)) S1 ∧ (b = false → I ds acc S1) ∧ (b = true → acc.length < 100000 ∧ ∃ v y S2, elt env1 S1 = .ok v S2 ∧ v.fixed = some (.d y) ∧ I ds (acc ++ [y]) S2)) :
    ∀ xs acc S, I xs acc S → Post (lcD t test elt env xs acc S)
  | [], acc, S, h => hnil acc S h
  | d :: ds, acc, S, h => by
    obtain ⟨env1, e1, b, S1, e2, h0, h1⟩ := hcons d ds acc S h
    unfold lcD
    simp only [e1, e2]
    cases b with
    | false =>
      simp only
      exact lcD_hoare I Post hnil hcons ds acc S1 (h0 rfl)
    | true =>
      obtain ⟨hl, v, y, S2, e3, e4, h2⟩ := h1 rfl
      simp only [e3, e4]
      rw [if_pos (by unfold LIM; omega)]
      exact lcD_hoare I Post hnil hcons ds _ S2 h2
end DL

set_option Elab.async false
set_option linter.all false
set_option maxRecDepth 100000
set_option maxHeartbeats 4000000
/-! DL17: exceptions of one's own: raise, try .. except. -/
namespace DL
open PySem PySem.Spec PyProof.Rows L2

/-- an exception class of the module -/
structure ExcN (K : PySem.W.Frag) (mg : Str → Option Value) (ca : Str → Addr) (x : Str) : Prop where
  gl : mg x = some (.ref (ca x))
  ex : PySem.W.excIn K (ca x) He.veBase "ValueError.__new__" = true
  kp : PySem.W.keepIn K (.ref (ca x)) = true
  sub : PySem.W.subIn K (.ref (ca x)) (.type "BaseException") = some true
  ty : PySem.W.typeIn K (.ref (ca x)) = some (.type "type")
theorem excN_of {K : PySem.W.Frag} {h : Heap} {mg : Str → Option Value} (X : K.In h) (G : h.Ns mainGlobals mg) {x : Str} (c1 : (He.Fa.glo x).ok K = true) (c2 : (He.Fa.exc x).ok K = true) : ExcN K mg (He.ga K) x := by
  obtain ⟨a, b, c, d⟩ := He.exc_ok c2
  exact ⟨He.glo_ok X G c1, a, b, c, d⟩
def raiseS (x : Str) : DS := fun env S => .raise ⟨x, none⟩ env S
theorem js_raise {X : Cx} {ca : Str → Addr} {W : WX} {x m : Str} {j : Nat} {p p2 pos pos2 : Pos} (N : ExcN X.K X.mg ca x) (hc : X.calm = true) (tk : Takes X W) (hg : Gl X x) (hdb : (x == ("__debug__" : Str)) = false := by decide) :
    JS X ca W (.Raise (some (.Call (.Name x p) [.Constant (.str m) j p2] [] pos)) none pos2) (raiseS x) := fun z =>
  imp_s (ps_raise hc tk (pmk_own PySem.F.excBase_ValueError N.ex N.gl N.kp (raises_own N.sub N.ty) hg hdb)) fun D σ H ⟨F, ρ, S, env, s, p⟩ =>
    p (.ref (ca x)) none σ F H ρ (Same.refl _) s ⟨rfl, rfl⟩
/-- which class lies under which: the program's own all lie beside one another under ArrangeError -/
def exSub (x y : Str) : Bool := x == y || (("ArrangeError" : Str) == y || ("ValueError" : Str) == y)
def runH (e : Exc) (env : Env) (S : Store) : List (Str × DS) → RS
  | [] => .raise e env S
  | (y, g) :: hs => if exSub e.cls y = true then g env S else runH e env S hs
def tryS (known : List Str) (body : DS) (hs : List (Str × DS)) : DS := fun env S => match body env S with
  | .raise e env' S' => if known.contains e.cls = true then runH e env' S' hs else .stuck
  | r => r
/-- the clauses, one after the other -/
inductive JHs (X : Cx) (ca : Str → Addr) (W : WX) : List ExceptHandler → List (Str × DS) → Prop
  | nil : JHs X ca W [] []
  | cons {x : Str} {b : Stmt} {suite : List Stmt} {np pos : Pos} {g : DS} {hds : List ExceptHandler} {l : List (Str × DS)} (hg : Gl X x) (hm : X.mg x = some (.ref (ca x))) (hdb : (x == ("__debug__" : Str)) = false)
      (hs : ∀ (a : Addr) (pn : List (Addr × Obj)), JSs (X.suite a pn) ca W (b :: suite) g) (r : JHs X ca W hds l) : JHs X ca W (.ExceptHandler (some (.Name x np)) none (b :: suite) pos :: hds) ((x, g) :: l)
theorem JHs.ok {X : Cx} {ca : Str → Addr} {W : WX} (z : Ses) : ∀ {hds : List ExceptHandler} {l : List (Str × DS)}, JHs X ca W hds l → HdsOk X hds (l.map fun p => (Value.ref (ca p.1), fun _ _ _ => dTS X.K ca W z p.2))
  | _, _, .nil => .nil
  | _, _, .cons hg hm hdb hs r => .cons ⟨hg, hdb, .inl hm⟩ (fun a oe cls d pn _ _ => hs a _ z) (r.ok z)
theorem run_many {K : PySem.W.Frag} {ca : Str → Addr} {W : WX} {z : Ses} {D : Ends} {F H : Hp} {ρ : List Addr} {S : Store} {env : Env} {σ : L2.St} {e : Exc} {cls : Value} {d : Option Addr} (s : SimS K ca z F ρ S env σ H) (er : ExcRep K ca F H cls d e) : ∀ {hs : List (Str × DS)}, (∀ y, y ∈ hs.map (·.1) → PySem.W.exmOne K (.ref (ca e.cls)) (.ref (ca y)) = some (exSub e.cls y)) →
    PostS K ca W z F D (runH e env S hs) → wMany K W D (hs.map fun p => (Value.ref (ca p.1), fun _ _ _ => dTS K ca W z p.2)) cls d σ H
  | [], _, p => p cls d σ F H ρ (Same.refl _) s er
  | (y, g) :: hs, hx, p => by
    have hy := hx y List.mem_cons_self
    have e1 : cls = .ref (ca e.cls) := er.1
    refine ⟨exSub e.cls y, by rw [e1]; exact hy, fun hb a _ => ?_, fun hb => ?_⟩
    · unfold runH at p
      rw [if_pos hb] at p
      exact ⟨F, ρ, S, env, s, p⟩
    · unfold runH at p
      rw [hb, if_neg Bool.false_ne_true] at p
      exact run_many s er (fun y hy => hx y (List.mem_cons_of_mem _ hy)) p
theorem js_try {X : Cx} {ca : Str → Addr} {W : WX} {body : List Stmt} {h0 : ExceptHandler} {hds : List ExceptHandler} {l : List (Str × DS)} {g : DS} {known : List Str} {pos : Pos} (hs : X.stack = X.env :: X.outer) (hf : X.env.frame = some X.env.locals) (tk : Takes X W)
    (hx : ∀ x, x ∈ known → ∀ y, y ∈ l.map (·.1) → PySem.W.exmOne X.K (.ref (ca x)) (.ref (ca y)) = some (exSub x y))
    (hb : ∀ (W' : WX) (pn : List (Addr × Obj)) (xe : Value → Shared → Prop), Takes (X.tr pn xe) W' → PassesOwn (model X.prog X.w) X.A X.env xe → JSs (X.tr pn xe) ca W' body g) (hh : JHs X ca W (h0 :: hds) l) :
    JS X ca W (.Try body (h0 :: hds) [] [] pos) (tryS known g l) := fun z =>
  imp_s (ps_try_many hs hf tk (tb := fun W' => dTS X.K ca W' z g) (fun W' pn xe t o => hb W' pn xe t o z) (hh.ok z)) fun D σ H ⟨F, ρ, S, env, s, p⟩ => by
    refine ⟨F, ρ, S, env, s, ?_⟩
    unfold tryS at p
    revert p
    cases q : g env S with
    | raise e env' S' =>
      intro p
      simp only at p
      by_cases hk : known.contains e.cls = true
      · rw [if_pos hk] at p
        exact fun cls d σ' F' H' ρ' f s' er => run_many s' er (hx e.cls (by simpa using hk)) (p.mono f)
      · rw [if_neg hk] at p
        exact p.elim
    | next env' S' => exact fun p => p
    | ret v S' => exact fun p => p
    | brk env' S' => exact fun p => p
    | cont env' S' => exact fun p => p
    | stuck => exact fun p => p
end DL

set_option Elab.async false
set_option linter.all false
set_option maxRecDepth 100000
set_option maxHeartbeats 4000000
/-! DL18: enumerate over a list, a tuple. -/
namespace DL
open PySem PySem.Spec PyProof.Rows L2

/-! ### enumerate(v), one argument, v told by its iterator -/
theorem meets_enum1 {v : Value} {o : Obj} {G : Heap → Prop} (B : Begins v o G) :
    Meets (Builtin.«enumerate.__new__» ⟨[.type "enumerate", v], []⟩) (fun _ R s => G s.heap ∧
      R (.ok (.ret (.ref (s.heap.push o).objs.size))) { s with heap := (s.heap.push o).push { cls := .type "enumerate", data := .fields #[.none, .bool false, .ref s.heap.objs.size, rawInt 0, .none, .none] } }) :=
  .of_wp fun prog w A R st hst => by
    obtain ⟨hp, gs, dr, tk, os⟩ := st
    obtain ⟨hG, hst⟩ := hst
    have hsub := sub_enumerate
    have it : ∀ {A' : Around} {E : Value → Shared → Prop} {Q : Value → Shared → Prop}, Q (.ref hp.objs.size) ⟨hp.push o, gs, dr, tk, os⟩ → wpAny (model prog w) A' (pyIter v) Q E ⟨hp, gs, dr, tk, os⟩ :=
      fun z => B.iter prog w _ _ ⟨hp, gs, dr, tk, os⟩ _ hG z
    wp_walk using it
    refine wpAny_stack_any fun _ => wpAny_pure ?_
    split
    · rename_i c _ _ _ _ _
      cases (c == Value.type "enumerate") <;> (wp_walk using it; exact ⟨_, rfl, hst⟩)
    · wp_walk using it
      exact ⟨_, rfl, hst⟩
theorem enum_new1 {prog : Program} {w : World} {A : Around} {E : Value → Shared → Prop} {s : Shared} {v : Value} {o : Obj} {G : Heap → Prop} {Q : Value → Shared → Prop} (B : Begins v o G) (hG : G s.heap)
    (h : ∀ h', IsEnum h' (s.heap.objs.size + 1) s.heap.objs.size 0 .none → h'.get? s.heap.objs.size = some o → (∀ b u, s.heap.get? b = some u → h'.get? b = some u) → Q (.ref (s.heap.objs.size + 1)) { s with heap := h' }) :
    wpAny (model prog w) A (call (.type "enumerate") [v]) Q E s := by
  refine callType_new F.called_enumerate (by decide) (F.typeCall_enumerate_1 _) (F.newCall_enumerate_1 _) (fun obj => F.args_object_init_2 obj _) F.entry_enumerate_new (meets_enum1 B) ⟨hG, ?_⟩
  have hz : (s.heap.push o).objs.size = s.heap.objs.size + 1 := Heap.size_push ..
  show _ ∧ _
  rw [hz]
  have at1 : IsEnum ((s.heap.push o).push { cls := .type "enumerate", data := .fields #[.none, .bool false, .ref s.heap.objs.size, rawInt 0, .none, .none] }) (s.heap.objs.size + 1) s.heap.objs.size 0 .none := by
    rw [← hz]
    exact Heap.get?_push_size (s.heap.push o) rfl
  exact ⟨⟨_, at1, rfl⟩, h _ at1 (Heap.get?_push_of_some _ (Heap.get?_push_size _ B.free)) fun b u e => Heap.get?_push_of_some _ (Heap.get?_push_of_some _ e)⟩
theorem next_end {prog : Program} {w : World} {A : Around} {E : Value → Shared → Prop} {s : Shared} {e it t : Addr} {i : Nat} {k : Int} {items : Array Value} {old : Value} {Q : Option Value → Shared → Prop} (hh : A.handled = none)
    (he : IsEnum s.heap e it k old) (hit : s.heap.IsTupleIter it t i) (ht : s.heap.IsTuple t items) (hx : items[i]? = none) (hQ : ∀ h', Heap.ExtBut it s.heap h' → Q none { s with heap := h' }) : wpAny (model prog w) A (pyNext (.ref e)) Q E s := by
  have hT : s.TypeIs (.ref e) "enumerate" := ⟨_, he, rfl⟩
  unfold pyNext
  refine wpAny_bind (wpAny_attempt (wpAny_callSpecial?_slot (name := Str.ofString "__next__") hT F.slot_enumerate_next (wpAny_call_entry F.slot_enumerate_next hT F.entry_enumerate_next ?_ (F.args_enumerate_next_1 _))))
  show wpAny _ _ (field (.ref e) 2 >>= _) _ _ _
  refine wpAny_bind (wpAny_field he rfl (x := .ref it) rfl (wpAny_bind (wpAny_nextOf_tuple_end hh hit ht hx fun h' x k1 k2 => ?_)))
  obtain ⟨o, ho, hc⟩ := k2
  exact wpAny_bind (wpAny_isInstance (T := "StopIteration") (b := true) ⟨o, ho, hc⟩ isSubtype_stop (wpAny_pure (hQ _ k1)))
/-! ### the turns -/
def Iett (K : PySem.W.Frag) (a : Addr) : It :=
  ⟨fun i H => ∃ (xs : List V) (x : V), SqT K H a xs ∧ xs[i]? = some x, fun i H v H' => ∃ T x, v = .ref T ∧ H T = none ∧ H' = upd H T (.tup [.int (i : Nat), x]) ∧ ∀ xs, SqT K H a xs → xs[i]? = some x, fun i H => ∃ xs : List V, SqT K H a xs ∧ xs.length ≤ i⟩
theorem turn_enumT {P : Program} {w : World} {K : PySem.W.Frag} {elts : List Expr} {kk : Nat} {tpos : Pos} (a e it : Addr) :
    Turn P w K (.Tuple elts kk tpos) (Iett K a) [e, it] e (fun i h => (∃ old, IsEnum h e it ((i : Nat) : Int) old) ∧ h.IsTupleIter it a i ∧ (e ≠ it ∧ a ≠ it ∧ a ≠ e)) where
  mem := by simp
  obj := fun i h st b hb => by
    obtain ⟨⟨old, he⟩, ⟨o, ho, hc, hd⟩, _⟩ := st
    rcases (by simpa using hb : b = e ∨ b = it) with rfl | rfl
    · exact ⟨_, he, fun v q => nomatch q⟩
    · exact ⟨o, ho, fun v q => by rw [hd] at q; cases q⟩
  keep := fun i h h' st k => ⟨⟨st.1.choose, k e (by simp) _ st.1.choose_spec⟩, st.2.1.at fun o q => k it (by simp) o q, st.2.2⟩
  item := by
    intro X hP hw hK hc i pins s σ H E I hf st hg
    subst hP hw hK
    obtain ⟨⟨old, he⟩, hit, hne, hai, hae⟩ := st
    obtain ⟨xs, x, hq, hx⟩ := hg
    obtain ⟨its, rv, tp, hz⟩ := I.tuple hq
    obtain ⟨u, hu, ru⟩ := rv.get hx
    have hlt : i < its.toArray.size := by
      have := (List.getElem?_eq_some_iff.mp hu).1
      simpa using this
    have hel : e < s.heap.objs.size := Heap.lt_size he
    have hil : it < s.heap.objs.size := by obtain ⟨_, q, _⟩ := hit; exact Heap.lt_size q
    have D := Draws.tuple (prog := X.prog) (w := X.w) (A := X.A.in1) (by first | exact I.ok.hd hc | (show X.A.in1.handled = none; exact I.ok.hd hc)) it a hai its.toArray
    refine wpAny_pyNext_enum_itemD D he ⟨hit, tp⟩ hlt hne (by simp [hne, Ne.symm hae]) fun y h' tk hy ho st' hT hsz hk => ?_
    have ey : y = u := by
      have h2 : its.toArray[i]? = some u := by simpa using hu
      rw [h2] at hy
      exact (Option.some.inj hy).symm
    subst ey
    refine ⟨_, rfl, wpAny_letOwnedTupleGo_enum (s := { s with heap := h', toks := tk + 1 }) ho fun h2 he' sb => ?_⟩
    have hT2 : h2.get? s.heap.objs.size = some { cls := .type "tuple", data := .seq #[.int i tk, y] } := (sb.2 _ (Nat.ne_of_gt hel)).trans hT
    have new : ObjOk X.prog X.w (upd H s.heap.objs.size (.tup [.int (i : Nat), x])) h2 s.heap.objs.size (.tup [.int (i : Nat), x]) :=
      ⟨by show 2 ≤ sizeLine; decide, [.int i tk, y], .cons ⟨_, rfl⟩ (.cons ru .nil), ⟨_, hT2, rfl, _, rfl⟩⟩
    have I1 : Inv X pins σ (upd H s.heap.objs.size (.tup [.int (i : Nat), x])) { s with heap := h2, toks := tk + 1 } :=
      I.turnedNew (ch := [e, it]) (fun b ob hb q => (sb.2 b fun z => hb (by rw [z]; simp)).trans (hk b ob (fun z => hb (by rw [z]; simp)) (fun z => hb (by rw [z]; simp)) q)) hf (Nat.le_refl _) new
    refine ⟨.ref s.heap.objs.size, _, I1, rfl, ⟨_, x, rfl, I.hok.fresh (Nat.le_refl _), rfl, fun ys hy => by rw [I.tuple_inj hy hq]; exact hx⟩, ⟨⟨y, ?_⟩, st'.1.at fun o q => (sb.2 it (Ne.symm hne)).trans q, hne, hai, hae⟩, fun b hb => ?_⟩
    · rw [show ((i + 1 : Nat) : Int) = (i : Int) + 1 by omega]
      exact he'
    · have hb' : b < s.heap.objs.size := by
        rcases (by simpa using hb : b = e ∨ b = it) with rfl | rfl
        · exact hel
        · exact hil
      rw [upd_ne (Nat.ne_of_lt hb')]
      exact (hf b hb).1
  done := by
    intro X hP hw hK hc i pins s σ H E I hf st hg
    subst hP hw hK
    obtain ⟨⟨old, he⟩, hit, hne, hai, hae⟩ := st
    obtain ⟨xs, hq, hx⟩ := hg
    obtain ⟨its, rv, tp, hz⟩ := I.tuple hq
    obtain ⟨f0, f1, f2, f3, f4, f5⟩ := hf it (by simp)
    have hl := rv.length
    exact next_end (I.ok.hd hc) he hit tp (by simp; omega) fun h' eb => ⟨rfl, I.turned (t' := s.toks) (fun b o hb q => eb b o hb q) f0 f1 f3 f4 f5⟩
  self := fun A i s Q E st h => wpAny_pyIter_enum st.1.choose_spec h
/-! ### enumerate(e) -/
def iEnumA (K : PySem.W.Frag) (tl : TE) : TI := fun σ H R => tl σ H fun x H1 => (∃ a, x = .ref a ∧ (∃ xs, SqL K H1 a xs) ∧ R (Ite K a) H1) ∨ ∃ a, x = .ref a ∧ (∃ xs, SqT K H1 a xs) ∧ R (Iett K a) H1
def oneV (f : V → Hp → Prop) : List V → Hp → Prop
  | [x], H => f x H
  | _, _ => False
theorem oneV_at {f : V → Hp → Prop} : ∀ {vs : List V} {H : Hp}, oneV f vs H → ∃ x, vs = [x] ∧ f x H
  | [x], _, h => ⟨x, rfl, h⟩
  | [], _, h => h.elim
  | _ :: _ :: _, _, h => h.elim
theorem isTuple_lt {h : Heap} {a : Addr} {its : Array Value} (p : h.IsTuple a its) : a < h.objs.size := by
  obtain ⟨o, e, _⟩ := p
  exact Heap.lt_size e
theorem fp2 {X : Cx} {pins : List (Addr × Obj)} {σ : L2.St} {H : Hp} {s : Shared} (I : Inv X pins σ H s) : ∀ b ∈ [s.heap.objs.size + 1, s.heap.objs.size], FpOk X pins H b := fun b hb => by
  have hle : s.heap.objs.size ≤ b := by
    rcases (by simpa using hb : b = s.heap.objs.size + 1 ∨ b = s.heap.objs.size) with z | z
    · rw [z]; exact Nat.le_add_right _ _
    · rw [z]; exact Nat.le_refl _
  exact I.fpOk hle (I.hok.fresh hle)
theorem pi_enumA {X : Cx} {e : Expr} {tl : TE} {p pos tpos : Pos} {elts : List Expr} {kk : Nat} (hg : Gl X "enumerate") (hm : X.mg "enumerate" = none) (he : PE X e tl) (hs : starEach [e] X.env = [(false, eval e X.env)] := by rfl) :
    PI X (.Tuple elts kk tpos) (.Call (.Name "enumerate" p) [e] [] pos) (iEnumA X.K tl) := by
  refine ⟨fun pins s σ H R I h => ?_⟩
  have ha : PA X [e] (tCons tl tNil) := pa_cons he pa_nil (by rw [hs]; rfl)
  refine Call_ (ld_blt I hg hm boot_enumerate (PyProof.Rows.callWith_type1 (thn (ha.run pos pins s σ H (oneV fun x H1 => (∃ a, x = .ref a ∧ (∃ xs, SqL X.K H1 a xs) ∧ R (Ite X.K a) H1) ∨ ∃ a, x = .ref a ∧ (∃ xs, SqT X.K H1 a xs) ∧ R (Iett X.K a) H1) I h) fun us s1 ⟨vs, H1, I1, r1, q1⟩ => ?_) hs rfl))
  obtain ⟨x, ex, q1⟩ := oneV_at q1
  subst ex
  cases r1 with
  | cons r rr =>
    cases rr
    rcases q1 with ⟨a, rfl, ⟨xs, hq⟩, q⟩ | ⟨a, rfl, ⟨xs, hq⟩, q⟩
    · cases r
      obtain ⟨its, rv, lp, hz⟩ := I1.list hq
      refine call_enumerate_list lp.isList fun h' h1 h2 h3 hk => wpAny_pyIter_enum h1 ?_
      exact ⟨s1.heap.objs.size + 1, [s1.heap.objs.size + 1, s1.heap.objs.size], _, _, H1, rfl, I1.kept (t' := s1.toks) hk, turn_enum a (s1.heap.objs.size + 1) s1.heap.objs.size, ⟨⟨.none, h1⟩, h2, Nat.succ_ne_self _⟩, fp2 I1, q⟩
    · cases r
      obtain ⟨its, rv, tp, hz⟩ := I1.tuple hq
      have hlt := isTuple_lt (show s1.heap.IsTuple a its.toArray from tp)
      refine enum_new1 (begins_tuple a its.toArray) tp fun h' h1 h2 hk => wpAny_pyIter_enum h1 ?_
      exact ⟨s1.heap.objs.size + 1, [s1.heap.objs.size + 1, s1.heap.objs.size], _, _, H1, rfl, I1.kept (t' := s1.toks) hk, turn_enumT a (s1.heap.objs.size + 1) s1.heap.objs.size, ⟨⟨.none, h1⟩, ⟨_, h2, rfl, rfl⟩, Nat.succ_ne_self _, Nat.ne_of_lt hlt, Nat.ne_of_lt (Nat.lt_succ_of_lt hlt)⟩, fp2 I1, q⟩
/-- the pairs of enumerate -/
def enumL : Nat → List PyData → List PyData
  | _, [] => []
  | n, x :: xs => .tuple [.int (n : Nat), x] :: enumL (n + 1) xs
theorem enumL_get : ∀ (n : Nat) (xs : List PyData) (i : Nat), (enumL n xs)[i]? = (xs[i]?).map fun x => .tuple [.int ((n + i : Nat) : Int), x]
  | n, [], i => by simp [enumL]
  | n, x :: xs, 0 => by simp [enumL]
  | n, x :: xs, i + 1 => by
    simp only [enumL, List.getElem?_cons_succ]
    rw [enumL_get (n + 1) xs i, show n + 1 + i = n + (i + 1) by omega]
theorem enumL_len : ∀ (n : Nat) (xs : List PyData), (enumL n xs).length = xs.length
  | _, [] => rfl
  | n, x :: xs => by simp [enumL, enumL_len (n + 1) xs]
def enumE (f : DE) : DE := fun env S => (f env S).bind fun x S1 => match x.fixed with
  | some (.d (.list xs)) => .ok (.d (.list (enumL 0 xs))) S1
  | some (.d (.tuple xs)) => .ok (.d (.list (enumL 0 xs))) S1
  | _ => .stuck
section
variable {K : PySem.W.Frag} {ca : Str → Addr} {W : WX} {F : Hp}
theorem ditems_e {vs : List V} {xs : List PyData} {J : It} (h : ∀ H', Same F H' → (∀ i x, vs[i]? = some x → J.go i H') ∧ (∀ i, vs.length ≤ i → J.stop i H') ∧ ∀ i x H'', J.yld i H' x H'' → ∃ T y, x = .ref T ∧ H' T = none ∧ H'' = upd H' T (.tup [.int (i : Nat), y]) ∧ vs[i]? = some y) (r : DrAll K F vs xs) : DItems K J F (enumL 0 xs) where
  stop := fun F' H' i f g hi => (h H' (f.trans g)).2.1 i (by rw [r.length]; rw [enumL_len] at hi; exact hi)
  go := fun F' H' i f g hi => by
    rw [enumL_len] at hi
    have hv : i < vs.length := by rw [r.length]; exact hi
    exact (h H' (f.trans g)).1 i vs[i] (List.getElem?_eq_getElem hv)
  yld := fun F' H' i x H'' d f g hd y => by
    obtain ⟨T, w, e1, e2, e3, e4⟩ := (h H' (f.trans g)).2.2 i x H'' y
    rw [enumL_get] at hd
    obtain ⟨z, hz, ez⟩ := Option.map_eq_some_iff.mp hd
    obtain ⟨w', h1, h2⟩ := r.get hz
    rw [e4] at h1
    cases h1
    refine .inr ⟨T, [.int (i : Nat), w], [.int (i : Nat), z], e2, e3, e1, ?_, .cons (.int _) (.cons (h2.mono f) .nil)⟩
    rw [← ez]
    simp
theorem ti_enum {f : DE} {σ : L2.St} {H : Hp} {RI : It → Hp → Prop} (h : dTI K ca W (enumE f) σ H RI) : iEnumA K (dTE K ca W f) σ H RI :=
  ti1 (k := fun env x S1 => match x.fixed with
  | some (.d (.list xs)) => .ok (.d (.list (enumL 0 xs))) S1
  | some (.d (.tuple xs)) => .ok (.d (.list (enumL 0 xs))) S1
  | _ => .stuck) h fun H0 F ρ S env s x S1 v F1 H1 ρ1 n r p => by
    cases q : x.fixed with
    | none => simp only [q] at p; exact p.elim
    | some ev =>
      simp only [q] at p
      obtain ⟨F2, n2, sm, r2⟩ := n.fixed s.old r q
      cases ev with
      | d y =>
        cases y with
        | list xs =>
          cases r2 with
          | lst h1 d1 =>
            refine .inl ⟨_, rfl, ⟨_, SqL.of (n2.sim.fz _ _ h1)⟩, p _ _ _ _ n2 (ditems_e (fun H' g => ⟨fun i x e => ⟨_, x, SqL.of (g _ _ h1), e⟩, fun i e => ⟨_, SqL.of (g _ _ h1), e⟩, fun i x H'' ⟨T, y, e1, e2, e3, e4⟩ => ⟨T, y, e1, e2, e3, e4 _ (SqL.of (g _ _ h1))⟩⟩) d1)⟩
        | tuple xs =>
          cases r2 with
          | tup h1 d1 =>
            refine .inr ⟨_, rfl, ⟨_, same_t n2.sim.fz h1⟩, p _ _ _ _ n2 (ditems_e (fun H' g => ⟨fun i x e => ⟨_, x, same_t g h1, e⟩, fun i e => ⟨_, same_t g h1, e⟩, fun i x H'' ⟨T, y, e1, e2, e3, e4⟩ => ⟨T, y, e1, e2, e3, e4 _ (same_t g h1)⟩⟩) d1)⟩
        | _ => exact p.elim
      | _ => exact p.elim
theorem ji_enum {X : Cx} {e : Expr} {f : DE} {p pos tpos : Pos} {elts : List Expr} {kk : Nat} (hg : Gl X "enumerate") (hm : X.mg "enumerate" = none) (h : JE X ca W e f) (hs : starEach [e] X.env = [(false, eval e X.env)] := by rfl) : JI X ca W (.Tuple elts kk tpos) (.Call (.Name "enumerate" p) [e] [] pos) (enumE f) :=
  imp_i (pi_enumA hg hm h hs) fun σ H R h => ti_enum h
end
@[simp] theorem enumE_ap {f : DE} {env : Env} {S : Store} : enumE f env S = (f env S).bind fun x S1 => match x.fixed with
  | some (.d (.list xs)) => .ok (.d (.list (enumL 0 xs))) S1
  | some (.d (.tuple xs)) => .ok (.d (.list (enumL 0 xs))) S1
  | _ => .stuck := rfl
end DL

set_option Elab.async false
set_option linter.all false
set_option maxRecDepth 100000
set_option maxHeartbeats 4000000
/-! DL19: defs as values; sorted texts. -/
namespace DL
open PySem PySem.Spec PyProof.Rows L2

def fnE (x : Str) : DE := fun _ S => .ok (.fn x) S
@[simp] theorem fnE_ap {x : Str} {env : Env} {S : Store} : fnE x env S = .ok (.fn x) S := rfl
def lookF : List (Str × DF) → Str → Option DF
  | [], _ => none
  | (y, F) :: r, x => if x = y then some F else lookF r x
/-- the def that a slot holds is called -/
def callN (i : Nat) (tab : List (Str × DF)) (as : DA) : DE := fun env S => match env[i]? with
  | some (some (.fn x)) => match lookF tab x with
    | some F => (as env S).bind F
    | none => .stuck
  | _ => .stuck
section
variable {X : Cx} {ca : Str → Addr} {W : WX} {k : Nat} {x : Str} {p pos : Pos} {e : Expr} {es : List Expr} {fs : List DE} {i : Nat}
theorem je_fn (hg : Gl X x) (hm : X.mg x = some (.ref (He.ga X.K x))) (hx : (x == ("__debug__" : Str)) = false := by decide) : JE X ca W (.Name x pos) (fnE x) :=
  imp_e (pe_glob (v := .ref (He.ga X.K x)) hg hm rfl hx) fun σ H Q ⟨H0, F, ρ, S, env, s, p⟩ => p _ _ _ _ ⟨Stp.refl _ _ _, s⟩ rfl
/-- a def that may be called so -/
structure Tab (X : Cx) (ca : Str → Addr) (k m : Nat) (x : Str) (F : DF) : Prop where
  ex : ∃ (fd : FuncData) (ps : List Str) (k' : Nat), k' ≤ k ∧ JF X.prog X.w X.K X.mg X.base ca k' (He.ga X.K x) fd ps F ∧ PySem.W.keepIn X.K (.ref (He.ga X.K x)) = true ∧ Binds X.K fd ps [] ∧ ps.length = m
theorem je_callN {tab : List (Str × DF)} (ht : ∀ y F, lookF tab y = some F → Tab X ca k fs.length y F) (hr : Room k X.A) (tk : Takes X W) (hN : X.N[i]? = some x) (hv : Vis X.env.scope x) (ha : JA X ca W (e :: es) (asL fs))
    (hdb : (x == ("__debug__" : Str)) = false := by decide) (hcd : (x == ("__classdict__" : Str)) = false := by decide) (he : starEach (e :: es) X.env = (false, eval e X.env) :: starEach es X.env := by rfl) (hpl : (backTo pos (starEach es X.env)).any (·.1) = false := by rfl) :
    JE X ca W (.Call (.Name x p) (e :: es) [] pos) (callN i tab (asL fs)) := by
  refine ⟨fun pins s σ H Q I h => ?_⟩
  obtain ⟨H0, F, ρ, S, env, sm, po⟩ := h
  unfold callN at po
  cases q : env[i]? with
  | none => simp only [q] at po; exact po.elim
  | some o =>
    cases o with
    | none => simp only [q] at po; exact po.elim
    | some ev =>
      cases ev with
      | fn y =>
        simp only [q] at po
        cases q2 : lookF tab y with
        | none => simp only [q2] at po; exact po.elim
        | some Ff =>
          simp only [q2] at po
          obtain ⟨fd, ps, k', hk', Fk, hkp, hb, hl⟩ := (ht y Ff q2).ex
          obtain ⟨v, hs, hv2⟩ := sm.slot i _ q
          have hv3 : v = .ref (He.ga X.K y) := hv2
          subst hv3
          refine wpAny_Call_Name_kw (thn ((pe_var (pos := p) hN hv hdb hcd).run pins s σ H (fun v H1 => v = .ref (He.ga X.K y) ∧ H1 = H) I ⟨_, hs, rfl, rfl⟩) fun u s1 ⟨v, H1, I1, r1, q1⟩ => ?_)
          obtain ⟨rfl, rfl⟩ := q1
          cases r1
          refine PySem.W.callWith_K (h₀ := X.base) I.ok.mod.kin hkp (thn (ha.run pos pins s1 σ _ (fun vs H2 => spD X.K ca ps.length Ff vs H2 Q (fun cls d H => W cls d σ H)) I1 (ta_end (k := fun xs S1 => Ff xs S1) ⟨H0, F, ρ, S, env, sm, po⟩ fun H0 F ρ S env s xs S1 vs F1 H1 ρ1 ex n r p =>
            ⟨by rw [Paired.length r, asL_len _ _ _ _ _ ex, hl], F1, ρ1, S1, xs, sim_base n.sim, paired_and r fun b hb a q => ⟨by
              have ho := asL_own _ _ _ _ _ ex b hb
              cases b with
              | own x => cases ho
              | ownD x => cases ho
              | _ => exact q, asL_own _ _ _ _ _ ex b hb⟩, post_call n p⟩)) fun us s2 ⟨vs, H2, I2, r, q⟩ => ⟨I2.kIn, ?_⟩) he hpl
          exact run_fnSD (E := fun σ cls d H => W cls d σ H) Fk (hr.mono hk') hb .nil (passAt tk σ) I2 r (by rw [List.append_nil]; exact q)
      | _ => simp only [q] at po; exact po.elim
end
/-! ### sorted texts -/
def insS (x : Str) : List Str → List Str
  | [] => [x]
  | y :: ys => if ltCps y.cps.toList x.cps.toList then y :: insS x ys else x :: y :: ys
def sortS : List Str → List Str
  | [] => []
  | x :: xs => insS x (sortS xs)
theorem insS_perm (x : Str) : ∀ ys, (insS x ys).Perm (x :: ys)
  | [] => .refl _
  | y :: ys => by
    unfold insS
    split
    · exact ((insS_perm x ys).cons y).trans (List.Perm.swap x y ys)
    · exact .refl _
theorem sortS_perm : ∀ xs, (sortS xs).Perm xs
  | [] => .refl _
  | x :: xs => (insS_perm x (sortS xs)).trans ((sortS_perm xs).cons x)
theorem str_eq {x y : Str} (h : x.cps.toList = y.cps.toList) : x = y := by
  obtain ⟨a⟩ := x
  obtain ⟨b⟩ := y
  obtain ⟨a⟩ := a
  obtain ⟨b⟩ := b
  simp only at h
  rw [h]
def leS (x y : Str) : Prop := ltCps y.cps.toList x.cps.toList = false
theorem leS_le {x y : Str} : leS x y ↔ x.cps.toList ≤ y.cps.toList := by
  unfold leS
  rw [ltCps_eq, decide_eq_false_iff_not]
  exact List.not_lt
theorem leS_trans {x y z : Str} (a : leS x y) (b : leS y z) : leS x z := leS_le.mpr (List.le_trans (leS_le.mp a) (leS_le.mp b))
theorem leS_anti {x y : Str} (a : leS x y) (b : leS y x) : x = y := str_eq (List.le_antisymm (leS_le.mp a) (leS_le.mp b))
theorem leS_total (x y : Str) : leS x y ∨ leS y x := by
  rcases List.le_total x.cps.toList y.cps.toList with h | h
  · exact .inl (leS_le.mpr h)
  · exact .inr (leS_le.mpr h)
theorem insS_sorted (x : Str) : ∀ ys, ys.Pairwise leS → (insS x ys).Pairwise leS
  | [], _ => List.pairwise_singleton _ _
  | y :: ys, h => by
    obtain ⟨h1, h2⟩ := List.pairwise_cons.mp h
    unfold insS
    split
    · rename_i hlt
      refine List.pairwise_cons.mpr ⟨fun z hz => ?_, insS_sorted x ys h2⟩
      rcases List.mem_cons.mp ((insS_perm x ys).mem_iff.mp hz) with e | e
      · subst e
        rcases leS_total y z with t | t
        · exact t
        · unfold leS at t
          rw [hlt] at t
          cases t
      · exact h1 z e
    · rename_i hlt
      have hx : leS x y := by simpa [leS] using hlt
      refine List.pairwise_cons.mpr ⟨fun z hz => ?_, h⟩
      rcases List.mem_cons.mp hz with e | e
      · subst e; exact hx
      · exact leS_trans hx (h1 z e)
theorem sortS_sorted : ∀ xs, (sortS xs).Pairwise leS
  | [] => .nil
  | x :: xs => insS_sorted x _ (sortS_sorted xs)
theorem sorted_one : ∀ {xs ys : List Str}, xs.Pairwise leS → ys.Pairwise leS → xs.Perm ys → xs = ys
  | [], ys, _, _, p => (List.nil_perm.mp p).symm
  | x :: xs, [], _, _, p => absurd (List.perm_nil.mp p) (by simp)
  | x :: xs, y :: ys, h1, h2, p => by
    obtain ⟨a1, a2⟩ := List.pairwise_cons.mp h1
    obtain ⟨b1, b2⟩ := List.pairwise_cons.mp h2
    have e : x = y := by
      rcases List.mem_cons.mp (p.mem_iff.mp List.mem_cons_self) with q | q
      · exact q
      · rcases List.mem_cons.mp (p.mem_iff.mpr List.mem_cons_self) with q2 | q2
        · exact q2.symm
        · exact leS_anti (a1 y q2) (b1 x q)
    subst e
    rw [sorted_one a2 b2 (List.perm_cons x |>.mp p)]
theorem rising_pw : ∀ {xs : List Str} {p : Str}, risingS p xs = true → (p :: xs).Pairwise leS
  | [], p, _ => List.pairwise_singleton _ _
  | x :: xs, p, h => by
    unfold risingS at h
    rw [Bool.and_eq_true] at h
    have r := rising_pw h.2
    have hp : leS p x := by simpa [leS] using h.1
    refine List.pairwise_cons.mpr ⟨fun z hz => ?_, r⟩
    rcases List.mem_cons.mp hz with e | e
    · subst e; exact hp
    · exact leS_trans hp ((List.pairwise_cons.mp r).1 z e)
theorem sortedS_pw {xs : List Str} (h : sortedS xs = true) : xs.Pairwise leS := by
  cases xs with
  | nil => exact .nil
  | cons x xs => exact rising_pw h
theorem sortS_is {xs ys : List Str} (p : ys.Perm xs) (h : sortedS ys = true) : ys = sortS xs := sorted_one (sortedS_pw h) (sortS_sorted xs) (p.trans (sortS_perm xs).symm)
def strsD : List PyData → Option (List Str)
  | [] => some []
  | .str x :: r => (strsD r).map (x :: ·)
  | _ => none
theorem strsD_eq : ∀ {xs : List PyData} {ss : List Str}, strsD xs = some ss → xs = ss.map .str
  | [], ss, h => by cases h; rfl
  | x :: xs, ss, h => by
    cases x with
    | str s =>
      obtain ⟨r, e1, e2⟩ := Option.map_eq_some_iff.mp h
      subst e2
      rw [strsD_eq e1]
      rfl
    | _ => cases h
def srtG : PyData → Option EV
  | .list xs => match strsD xs with
    | some ss => if ss.length < 64 then some (.own ((sortS ss).map .str)) else none
    | none => none
  | .dict ks => match strsD (ks.map (·.1)) with
    | some ss => if ss.length < 64 then some (.own ((sortS ss).map .str)) else none
    | none => none
  | _ => none
abbrev sortE : DE → DE := RE1 (vUn srtG)
theorem drAll_strs {K : PySem.W.Frag} {F : Hp} : ∀ {ss : List Str} {vs : List V}, DrAll K F vs (ss.map .str) → vs = ss.map V.str
  | [], _, .nil => rfl
  | s :: ss, _, .cons h r => by
    cases h
    rw [drAll_strs r]
    rfl
theorem drAll_ofStrs {K : PySem.W.Frag} {F : Hp} : ∀ (ss : List Str), DrAll K F (ss.map V.str) (ss.map .str)
  | [] => .nil
  | s :: ss => .cons (.str s) (drAll_ofStrs ss)
theorem drKv_keys {K : PySem.W.Frag} {F : Hp} : ∀ {ks : List (Key × V)} {xs : List (PyData × PyData)} {ss : List Str}, DrKv K F ks xs → xs.map (·.1) = ss.map .str → ks.map (·.1) = ss.map Sum.inr
  | [], _, ss, .nil, e => by
    cases ss with
    | nil => rfl
    | cons => cases e
  | _ :: _, _, ss, .cons h r, e => by
    cases ss with
    | nil => cases e
    | cons s ss =>
      simp only [List.map_cons, List.cons.injEq, PyData.str.injEq] at e ⊢
      exact ⟨by rw [e.1], drKv_keys r e.2⟩
def rSort1 (K : PySem.W.Frag) : List V → Hp → VK → Prop := fun xs H Q => rSortedS K xs H Q ∨ (∃ (a : Addr) (kvs : List (Key × V)) (ks : List Str), xs = [.ref a] ∧ Rd H a (.dK kvs) ∧ kvs.map (·.1) = ks.map Sum.inr ∧ ks.length < 64 ∧
    ∀ ys p, ys.Perm ks → sortedS ys = true → H p = none → Q (.ref p) (upd H p (.lst (ys.map V.str))))
theorem call_sort1 {X : Cx} (hc : X.calm = true) : CallR X (.builtin "sorted") (rSort1 X.K) := by
  intro pins s σ H xs us Q I r h
  rcases h with h | h
  · exact cr_sortedS pins s σ H xs us Q I r h
  · exact call_sortedD hc pins s σ H xs us Q I r h
section
variable {K : PySem.W.Frag} {ca : Str → Addr} {W : WX}
theorem unv_sort : UnV K ca W (fun v H Q => rSort1 K [v] H Q) srtG := by
  intro H0 env σ F H ρ F' H' ρ' S' v1 a ev Q n r e p
  unfold srtG at e
  split at e
  · split at e
    · rename_i ss q
      split at e
      · rename_i hl
        cases e
        obtain ⟨a1, vs1, e3, h1, d1⟩ := r
        subst e3
        rw [strsD_eq q] at d1
        rw [drAll_strs d1] at h1
        refine .inl ⟨a1, ss, rfl, SqL.of h1, hl, fun ys pt pm so hp => ?_⟩
        rw [sortS_is pm so]
        exact fin_l n p (drAll_ofStrs _) hp
      · cases e
    · cases e
  · split at e
    · rename_i ss q
      split at e
      · rename_i hl
        cases e
        obtain ⟨a1, ks1, e3, h1, d1⟩ := r
        subst e3
        refine .inr ⟨a1, ks1, ss, rfl, .inl h1, drKv_keys d1 (strsD_eq q), hl, fun ys pt pm so hp => ?_⟩
        rw [sortS_is pm so]
        exact fin_l n p (drAll_ofStrs _) hp
      · cases e
    · cases e
  · cases e
end
section
variable {X : Cx} {ca : Str → Addr} {W : WX} {a : Expr} {fa : DE} {p pos : Pos}
theorem je_sort (hc : X.calm = true) (hg : Gl X "sorted") (hm : X.mg "sorted" = none) (h : JE X ca W a fa) (he : starEach [a] X.env = (false, eval a X.env) :: starEach [] X.env := by rfl) : JE X ca W (.Call (.Name "sorted" p) [a] [] pos) (sortE fa) :=
  je_b1 (call_sort1 hc) unv_sort.d hg hm PyProof.Rows.boot_sorted h (he := he)
end
/-! ### a walk over a written tuple of defs -/
def forFD (t : DG) (body : DS) : List Str → DS
  | [] => fun env S => .next env S
  | d :: ds => fun env S => match t (.fn d) env with
    | none => .stuck
    | some env1 => match body env1 S with
      | .next env' S' => forFD t body ds env' S'
      | .cont env' S' => forFD t body ds env' S'
      | .brk env' S' => .next env' S'
      | .ret v S' => .ret v S'
      | .raise e env' S' => .raise e env' S'
      | .stuck => .stuck
theorem asL_fn {env : Env} {S : Store} : ∀ xs : List Str, asL (xs.map fnE) env S = .ok (xs.map .fn) S
  | [] => rfl
  | x :: xs => by
    rw [List.map_cons, asL_cons, fnE_ap, RE.bindA_ok, fixed_fn]
    simp only [asL_fn xs, RA.bindA_ok, List.map_cons]
theorem paired_at {α β : Type} {R : α → β → Prop} : ∀ {l : List α} {m : List β}, Paired R l m → ∀ i (h : i < m.length), ∃ h' : i < l.length, R l[i] m[i]
  | _, _, .nil, i, h => absurd h (by simp)
  | _, _, .cons h t, 0, _ => ⟨by simp, h⟩
  | _, _, .cons h t, i + 1, hi => by
    obtain ⟨h1, h2⟩ := paired_at t i (by simpa using hi)
    exact ⟨by simpa using h1, h2⟩
theorem js_forFn {X : Cx} {ca : Str → Addr} {W : WX} {tg : Expr} {es : List Expr} {x1 : Nat} {pos2 : Pos} {body : List Stmt} {xs : List Str} {t : DG} {g : DS} {pos : Pos} (hp : PassesOwn (model X.prog X.w) X.A X.env X.xe) (hc : X.calm = true) {is : List Nat}
    (ha : JA X ca W es (asL (xs.map fnE))) (hg : JG X ca tg t is) (hb : JSs X ca W body g) (hl : xs.length ≤ 1000 := by decide)
    (hs : ∀ x, foldedSetIterable (.Tuple es x1 pos2) X.env x = pure x := by intro _; rfl) : JS X ca W (.For tg (.Tuple es x1 pos2) body [] pos) (forFD t g xs) := fun z => imp_s (ps_for hp hc (pi_any (pe_tup ha)) hg (hb z) hs) fun D σ H ⟨F, ρ, S, env, s, p⟩ => by
  refine ⟨z.H0, F, ρ, S, env, s.sim, ?_⟩
  rw [asL_fn]
  intro vs F0 H0 ρ0 n0 pr
  have hv := Paired.length pr
  rw [List.length_map] at hv
  refine ⟨by rw [lim_eq]; unfold LIM; omega, fun a hpa => .inr (.inl ⟨a, rfl, ⟨vs, .inl (.inl upd_same)⟩, ?_⟩)⟩
  have n := n0.newT (vs := vs) hpa
  have hF0 : (upd F0 a (.tup vs)) a = some (.tup vs) := upd_same
  have hit : ∀ i (h : i < xs.length), vs[i]? = some (.ref (He.ga X.K xs[i])) := fun i h => by
    obtain ⟨h1, h2⟩ := paired_at pr i (by simpa using h)
    rw [List.getElem?_eq_getElem h1]
    have h3 : vs[i] = .ref (He.ga X.K xs[i]) := by
      have : RepV X.K F0 ρ0 H H0 vs[i] (.fn xs[i]) := by simpa using h2
      exact this
    rw [h3]
  have fz : ∀ {F' H' : Hp}, Same (upd F0 a (.tup vs)) F' → Same F' H' → SqT X.K H' a vs := fun f g => .inl (.inl (g _ _ (f _ _ hF0)))
  generalize upd F0 a (.tup vs) = F1 at n fz hF0
  generalize upd H0 a (.tup vs) = H1 at n
  refine ⟨fun i m σ H => m = xs.length - i ∧ i ≤ xs.length ∧ ∃ F' ρ' S' env', Same F1 F' ∧ SimS X.K ca z F' ρ' S' env' σ H ∧ PostS X.K ca W z F' D (forFD t g (xs.drop i) env' S'),
    ⟨xs.length, by simp, Nat.zero_le _, F1, ρ0, S, env, Same.refl _, s.on n, p.mono n.stp.fz⟩, ?_⟩
  rintro i m σ2 H2 ⟨rfl, hi2, F2, ρ2, S2, env2, f2, s2, p2⟩
  by_cases hlt : i < xs.length
  · refine .inr ⟨⟨vs, _, fz f2 s2.sim.fz, hit i hlt⟩, fun σ' H' => ∃ F' ρ' S' env', Same F1 F' ∧ SimS X.K ca z F' ρ' S' env' σ' H' ∧ PostS X.K ca W z F' D (forFD t g (xs.drop (i + 1)) env' S'),
      fun σ' H' h => ⟨xs.length - (i + 1), by omega, rfl, hlt, h⟩, fun x H3 y => ?_⟩
    have ed : xs.drop i = xs[i] :: xs.drop (i + 1) := List.drop_eq_getElem_cons hlt
    rw [ed] at p2
    obtain ⟨e3, y3⟩ := y
    subst e3
    have hx := y3 vs (fz f2 s2.sim.fz)
    rw [hit i hlt] at hx
    cases hx
    unfold forFD at p2
    cases q : t (.fn xs[i]) env2 with
    | none => simp only [q] at p2; exact p2.elim
    | some env3 =>
      simp only [q] at p2
      refine ⟨z.H0, F2, ρ2, S2, env2, .fn xs[i], env3, s2.sim, rfl, rfl, q, fun σ4 s4 _ => ⟨F2, ρ2, S2, env3, ⟨s4, s2.stp⟩, ?_⟩⟩
      revert p2
      cases q2 : g env3 S2 with
      | next env' S' => exact fun p2 σ' F' H' ρ' f' s' => ⟨F', ρ', S', env', f2.trans f', s', p2.mono f'⟩
      | cont env' S' => exact fun p2 σ' F' H' ρ' f' s' => ⟨F', ρ', S', env', f2.trans f', s', p2.mono f'⟩
      | brk env' S' => exact fun p2 σ' F' H' ρ' f' s' => p2 σ' F' H' ρ' f' s'
      | ret v S' => exact fun p2 => p2
      | raise e env' S' => exact fun p2 cls d σ' F' H' ρ' f' s' r => p2 cls d σ' F' H' ρ' f' s' r
      | stuck => exact fun p2 => p2
  · have e : i = xs.length := by omega
    subst e
    rw [List.drop_length] at p2
    exact .inl ⟨⟨vs, fz f2 s2.sim.fz, by omega⟩, p2 σ2 F2 H2 ρ2 (Same.refl _) s2⟩
theorem tab_nil {X : Cx} {ca : Str → Addr} {k m : Nat} : ∀ y F, lookF [] y = some F → Tab X ca k m y F := fun _ _ h => nomatch h
theorem tab_cons {X : Cx} {ca : Str → Addr} {k m : Nat} {x : Str} {G : DF} {r : List (Str × DF)} (h : Tab X ca k m x G) (t : ∀ y F, lookF r y = some F → Tab X ca k m y F) : ∀ y F, lookF ((x, G) :: r) y = some F → Tab X ca k m y F := fun y F e => by
  unfold lookF at e
  by_cases q : y = x
  · rw [if_pos q] at e
    cases e
    rw [q]
    exact h
  · rw [if_neg q] at e
    exact t y F e
theorem tab_of {X : Cx} {ca : Str → Addr} {k k' m : Nat} {x : Str} {f : Addr} {fd : FuncData} {ps : List Str} {F : DF} (Fk : JF X.prog X.w X.K X.mg X.base ca k' f fd ps F) (hg : X.mg x = some (.ref f)) (ha : X.mg x = some (.ref (He.ga X.K x))) (hk : PySem.W.keepIn X.K (.ref f) = true) (hb : Binds X.K fd ps [])
    (hl : k' ≤ k) (hm : ps.length = m := by rfl) : Tab X ca k m x F := by
  rw [hg] at ha
  cases ha
  exact ⟨fd, ps, k', hl, Fk, hk, hb, hm⟩
end DL

set_option Elab.async false
set_option linter.all false
set_option maxRecDepth 100000
set_option maxHeartbeats 4000000
/-! DL20: dicts that grow, three targets, tuple(range(a, b)). -/
namespace DL
open PySem PySem.Spec PyProof.Rows L2

section
variable {K : PySem.W.Frag} {ca : Str → Addr} {W : WX} {z : Ses} {H0 F H F' H' F1 H1 F2 H2 B : Hp} {ρ ρ' ρ1 ρ2 : List Addr} {S S' S1 S2 : Store} {env env' : Env} {σ σ' : L2.St} {v : V} {ev : EV} {D : Ends}
/-- the own list of a slot is changed -/
theorem Sim.mutOwnD (s : Sim K ca H0 F ρ S env σ H) {i : Nat} {a : Addr} {xs ys : List (PyData × PyData)} {ws : List (Key × V)} (e : env[i]? = some (some (.ownD xs))) (e2 : σ[i]? = some (some (.ref a))) (r : DrKv K F ws ys) :
    Sim K ca H0 F ρ S (env.set i (some (.ownD ys))) σ (upd H a (.dK ws)) := by
  obtain ⟨hF, hB, hr, hH⟩ := s.own_at e rfl e2
  have ne : ∀ b, b ∈ ρ → b ≠ a := fun b hb z => hr (z ▸ hb)
  have sl : ∀ j ej, env.set i (some (.ownD ys)) = env.set i (some (.ownD ys)) → (env.set i (some (.ownD ys)))[j]? = some (some ej) → (j = i ∧ ej = .ownD ys) ∨ (j ≠ i ∧ env[j]? = some (some ej)) := fun j ej _ h => by
    rcases get_set h with ⟨h1, _, h3⟩ | ⟨h1, h2⟩
    · cases h3
      exact .inl ⟨h1, rfl⟩
    · exact .inr ⟨h1, h2⟩
  refine ⟨fun b o hb => ?_, s.len, s.nd, s.rfz, fun l b c e3 e4 => ?_, by rw [List.length_set]; exact s.lenE, fun j ej h => ?_, fun j k ej ek b h1 h2 o1 o2 h3 h4 => ?_⟩
  · have : b ≠ a := fun z => by rw [z, hF] at hb; cases hb
    rw [upd_ne this]
    exact s.fz _ _ hb
  · have hb := ne b (List.mem_of_getElem? e3)
    have h := s.cell l b c e3 e4
    cases c with
    | lst cs =>
      obtain ⟨vs, q1, q2⟩ := h
      exact ⟨vs, by rw [upd_ne hb]; exact q1, q2⟩
    | obj cn fs =>
      obtain ⟨dx, vs, q1, q2⟩ := h
      exact ⟨dx, vs, by rw [upd_ne hb]; exact q1, q2⟩
  · rcases sl j ej rfl h with ⟨rfl, rfl⟩ | ⟨hj, h⟩
    · exact ⟨_, e2, a, ws, rfl, hB, upd_same, hF, hr, r⟩
    · obtain ⟨w, q1, q2⟩ := s.slot j ej h
      refine ⟨w, q1, ?_⟩
      have apart : ∀ (b : Addr), ej.isOwn = true → w = .ref b → b ≠ a := fun b o hw z => by
        rw [hw, z] at q1
        exact hj (s.ownD j i ej _ a h e o rfl q1 e2)
      cases ej with
      | own zs =>
        obtain ⟨b, vs, r1, r2, r3, r4⟩ := q2
        exact ⟨b, vs, r1, r2, by rw [upd_ne (apart b rfl r1)]; exact r3, r4⟩
      | ownD zs =>
        obtain ⟨b, vs, r1, r2, r3, r4⟩ := q2
        exact ⟨b, vs, r1, r2, by rw [upd_ne (apart b rfl r1)]; exact r3, r4⟩
      | d x => exact q2
      | bor x => exact q2
      | borD x => exact q2
      | ref x => exact q2
      | scr x => exact q2
      | opq x => exact q2
      | fn x => exact q2
  · have own : ∀ (j : Nat) (ej : EV), (env.set i (some (.ownD ys)))[j]? = some (some ej) → ej.isOwn = true → ∃ ek, env[j]? = some (some ek) ∧ ek.isOwn = true := fun j ej h o => by
      rcases sl j ej rfl h with ⟨rfl, rfl⟩ | ⟨hj, h⟩
      · exact ⟨_, e, rfl⟩
      · exact ⟨ej, h, o⟩
    obtain ⟨e5, h5, o5⟩ := own j ej h1 o1
    obtain ⟨e6, h6, o6⟩ := own k ek h2 o2
    exact s.ownD j k e5 e6 b h5 h6 o5 o6 h3 h4
theorem SimS.mutOwnD (s : SimS K ca z F ρ S env σ H) {i : Nat} {a : Addr} {xs ys : List (PyData × PyData)} {ws : List (Key × V)} (e : env[i]? = some (some (.ownD xs))) (e2 : σ[i]? = some (some (.ref a))) (r : DrKv K F ws ys) :
    SimS K ca z F ρ S (env.set i (some (.ownD ys))) σ (upd H a (.dK ws)) := by
  obtain ⟨hF, hB, hr, hH⟩ := s.sim.own_at e rfl e2
  refine ⟨s.sim.mutOwnD e e2 r, s.stp.fz, s.stp.nfz, s.stp.rho, fun b o h1 h2 => ?_, fun b hb => ?_⟩
  · have : b ≠ a := fun z => by rw [z, hB] at h2; cases h2
    rw [upd_ne this]
    exact s.stp.fr b o h1 h2
  · by_cases e : b = a
    · rw [e]; exact hB
    · rw [upd_ne e] at hb
      exact s.stp.mono b hb

end
/-! ### {} -/
def empE : DE := fun _ S => .ok (.ownD []) S
@[simp] theorem empE_ap {env : Env} {S : Store} : empE env S = .ok (.ownD []) S := rfl
theorem je_dict0 {X : Cx} {ca : Str → Addr} {W : WX} {pos : Pos} : JE X ca W (.Dict [] [] pos) empE :=
  imp_e pe_dnewK fun σ H Q ⟨H0, F, ρ, S, env, s, p⟩ d hd => by
    have n : Now X.K ca H0 env σ F H ρ F H ρ S := ⟨Stp.refl _ _ _, s⟩
    exact p _ _ _ _ (n.newO hd) ⟨d, [], rfl, hd, upd_same, n.sim.unfz hd, n.sim.notin hd, .nil⟩
/-! ### d[k] = v -/
def keyIsS : PyData → Str → Bool
  | .str s, k => decide (s = k)
  | _, _ => false
def putD (ks : List (PyData × PyData)) (k : Str) (d : PyData) : List (PyData × PyData) :=
  if (ks.any fun p => keyIsS p.1 k) = true then ks.map (fun p => if keyIsS p.1 k = true then (p.1, d) else p) else ks ++ [(.str k, d)]
theorem drKv_any {K : PySem.W.Frag} {F : Hp} {k : Str} : ∀ {ks : List (Key × V)} {xs : List (PyData × PyData)}, DrKv K F ks xs → (ks.any fun kv => decide (kv.1 = Sum.inr k)) = xs.any fun p => keyIsS p.1 k
  | _, _, .nil => rfl
  | _, _, .cons (k := s) h r => by
    rw [List.any_cons, List.any_cons, drKv_any r]
    congr 1
    simp only [keyIsS, Sum.inr.injEq]
theorem drKv_map {K : PySem.W.Frag} {F : Hp} {k : Str} {v : V} {d : PyData} (q : Dr K F v d) : ∀ {ks : List (Key × V)} {xs : List (PyData × PyData)}, DrKv K F ks xs → DrKv K F (ks.map fun kv => if kv.1 = Sum.inr k then (kv.1, v) else kv) (xs.map fun p => if keyIsS p.1 k = true then (p.1, d) else p)
  | _, _, .nil => .nil
  | _, _, .cons (k := s) h r => by
    rw [List.map_cons, List.map_cons]
    by_cases e : s = k
    · subst e
      simp only [keyIsS, decide_true, if_true]
      exact .cons q (drKv_map q r)
    · have e2 : ¬ (Sum.inr s : Key) = Sum.inr k := fun z => e (Sum.inr.inj z)
      simp only [keyIsS, e, e2, decide_false, Bool.false_eq_true, if_false]
      exact .cons h (drKv_map q r)
theorem drKv_app {K : PySem.W.Frag} {F : Hp} : ∀ {ks ls : List (Key × V)} {xs ys : List (PyData × PyData)}, DrKv K F ks xs → DrKv K F ls ys → DrKv K F (ks ++ ls) (xs ++ ys)
  | _, _, _, _, .nil, s => s
  | _, _, _, _, .cons h r, s => .cons h (drKv_app r s)
theorem DrKv.put {K : PySem.W.Frag} {F : Hp} {k : Str} {v : V} {d : PyData} {ks : List (Key × V)} {xs : List (PyData × PyData)} (h : DrKv K F ks xs) (q : Dr K F v d) : DrKv K F (putK ks (Sum.inr k) v) (putD xs k d) := by
  unfold putK putD
  rw [drKv_any h]
  split
  · exact drKv_map q h
  · exact drKv_app h (.cons q .nil)
/-- the own dict of slot i -/
def dputS (i : Nat) (fi fv : DE) : DS := fun env S => (fv env S).bindS env fun x S1 => match x.fixed, env[i]? with
  | some (.d d), some (some (.ownD ks)) => (fi env S1).bindS env fun y S2 => match y with
    | .d (.str k) => if ks.length < 100000 then .next (env.set i (some (.ownD (putD ks k d)))) S2 else .stuck
    | _ => .stuck
  | _, _ => .stuck
section
variable {X : Cx} {ca : Str → Addr} {W : WX} {e ix : Expr} {f fi fv : DE}
theorem js_dput {i : Nat} {x : Str} {p p2 pos : Pos} (hu : X.A.units + 1 < cLine) (hN : X.N[i]? = some x) (hv : Vis X.env.scope x) (he : JE X ca W e fv) (hi : JE X ca W ix fi) (hd : (x == ("__debug__" : Str)) = false := by decide) (hcd : (x == ("__classdict__" : Str)) = false := by decide)
    (hs : swapsWith e (some (.Subscript (.Name x p) ix p2)) pos.line X.env = pure false := by rfl) :
    JS X ca W (.Assign [.Subscript (.Name x p) ix p2] e pos) (dputS i fi fv) := fun z =>
  imp_s (ps_dput hu (pe_var hN hv hd hcd) hi he hs) fun D σ H ⟨F, ρ, S, env, s, p⟩ =>
    ts1 (D := D) s p fun x S1 v F1 H1 ρ1 n s1 r p1 => by
      cases q : x.fixed with
      | none => simp only [q] at p1; exact p1.elim
      | some x' =>
        cases x' with
        | d d =>
          cases q2 : env[i]? with
          | none => simp only [q, q2] at p1; exact p1.elim
          | some o =>
            cases o with
            | none => simp only [q, q2] at p1; exact p1.elim
            | some ev =>
              cases ev with
              | ownD ks =>
                simp only [q, q2] at p1
                obtain ⟨F2, s2, sm, rr⟩ := s.fixed n r q
                obtain ⟨w, e1, _⟩ := s2.sim.slot i _ q2
                refine ⟨w, e1, ts1 (D := D) s2 (p1.mono sm) fun y S2 v2 F3 H3 ρ3 n3 s3 r3 p3 => ?_⟩
                cases y with
                | d y =>
                  cases y with
                  | str k =>
                    have p3' : PostS X.K ca W z F3 D (if ks.length < 100000 then .next (env.set i (some (.ownD (putD ks k d)))) S2 else .stuck) := p3
                    by_cases hl : ks.length < 100000
                    · rw [if_pos hl] at p3'
                      obtain ⟨w', e2, b, kvs, t1, t2, t3, t4, t5, t6⟩ := s3.sim.slot i _ q2
                      rw [e1] at e2
                      cases e2
                      subst t1
                      cases r3
                      exact ⟨b, _, rfl, DPut.k (k := Sum.inr k) t3 (by rw [t6.length, lim_eq]; unfold LIM; omega), p3' σ F3 _ ρ3 (Same.refl _) (s3.mutOwnD q2 e1 (t6.put (Dr.mono n3.stp.fz rr)))⟩
                    · rw [if_neg hl] at p3'
                      exact p3'.elim
                  | _ => exact p3.elim
                | _ => exact p3.elim
              | _ => simp only [q, q2] at p1; exact p1.elim
        | _ => simp only [q] at p1; exact p1.elim
end
/-! ### k in d -/
def kInD (neg : Bool) : EV → EV → Store → RE := fun y x S => match y, x with
  | .d (.str k), .d (.dict ks) => .ok (bE (if neg then !(lookD ks k).isSome else (lookD ks k).isSome)) S
  | .d (.str k), .borD ks => .ok (bE (if neg then !(lookD ks k).isSome else (lookD ks k).isSome)) S
  | _, _ => .stuck
abbrev inDE : DE → DE → DE := RE2 (kInD false)
abbrev ninDE : DE → DE → DE := RE2 (kInD true)
theorem look_some {K : PySem.W.Frag} {F : Hp} {k : Str} {ks : List (Key × V)} {xs : List (PyData × PyData)} (h : DrKv K F ks xs) : (valV ks (.inr k)).isSome = (lookD xs k).isSome := by
  obtain ⟨h1, h2⟩ := look_rep (k := k) h
  cases q : lookD xs k with
  | none =>
    rw [h2 q]
    rfl
  | some d =>
    obtain ⟨v, e, _⟩ := h1 d q
    rw [e]
    rfl
section
variable {X : Cx} {ca : Str → Addr} {W : WX} {a b : Expr} {fa fb : DE}
theorem te_inD {K : PySem.W.Frag} {neg : Bool} {σ : L2.St} {H : Hp} {Q : VK} (h : dTE K ca W (RE2 (kInD neg) fa fb) σ H Q) : dTE K ca W fa σ H fun y H1 => dTE K ca W fb σ H1 fun x H2 => ∃ a o, x = .ref a ∧ DGet H2 a y o ∧ Q (.bl (if neg then !o.isSome else o.isSome)) H2 :=
  te1 h fun H0 F ρ S env s x S1 v F1 H1 ρ1 n r1 p => te2 n p fun y S2 v2 F2 H2 ρ2 n2 st r2 p2 => by
    cases x with
    | d x =>
      cases x with
      | str k =>
        cases r1
        cases y with
        | d y =>
          cases y with
          | dict ks =>
            obtain ⟨a, kvs, rfl, h1, h2⟩ := rd_dct n2.sim.fz r2
            refine ⟨a, _, rfl, DGet.k (k := Sum.inr k) h1, ?_⟩
            rw [look_some h2]
            exact fin_d n2 p2 (.bl _)
          | _ => exact p2.elim
        | borD ks =>
          obtain ⟨i, a, q1, q2, rfl⟩ := r2
          obtain ⟨w, e1, b, kvs, t1, t2, t3, t4, t5, t6⟩ := n2.sim.slot i _ q1
          rw [q2] at e1
          cases e1
          cases t1
          refine ⟨a, _, rfl, DGet.k (k := Sum.inr k) t3, ?_⟩
          rw [look_some t6]
          exact fin_d n2 p2 (.bl _)
        | _ => exact p2.elim
      | _ => cases y <;> exact p2.elim
    | _ => cases y <;> exact p2.elim
theorem je_inD {pos : Pos} (hu : X.A.units + 1 < cLine) (ha : JE X ca W a fa) (hb : JE X ca W b fb) (hm : behindInMarks .In b = false := by rfl) : JE X ca W (.Compare a [.In] [b] pos) (inDE fa fb) := imp_e (pe_cmp (pc_din hu ha hb) (h1 := hm)) fun σ H Q h => te_inD (neg := false) h
theorem jt_inD {pos : Pos} (hu : X.A.units + 1 < cLine) (ha : JE X ca W a fa) (hb : JE X ca W b fb) (hm : behindInMarks .In b = false := by rfl) : JT X ca W (.Compare a [.In] [b] pos) (inDE fa fb) := imp_t (pt_cmp (pc_din hu ha hb) (h1 := hm)) fun σ H Q h => te_inD (neg := false) (tt_te h)
theorem je_ninD {pos : Pos} (hu : X.A.units + 1 < cLine) (ha : JE X ca W a fa) (hb : JE X ca W b fb) (hm : behindInMarks .NotIn b = false := by rfl) : JE X ca W (.Compare a [.NotIn] [b] pos) (ninDE fa fb) := imp_e (pe_cmp (pc_dnotin hu ha hb) (h1 := hm)) fun σ H Q h => te_inD (neg := true) h
theorem jt_ninD {pos : Pos} (hu : X.A.units + 1 < cLine) (ha : JE X ca W a fa) (hb : JE X ca W b fb) (hm : behindInMarks .NotIn b = false := by rfl) : JT X ca W (.Compare a [.NotIn] [b] pos) (ninDE fa fb) := imp_t (pt_cmp (pc_dnotin hu ha hb) (h1 := hm)) fun σ H Q h => te_inD (neg := true) (tt_te h)
end
/-! ### a, b, c = e1, e2, e3: fixed data into plain locals -/
def par3D (i j l : Nat) (f g h : DE) : DS := fun env S => (f env S).bindS env fun x S1 => (g env S1).bindS env fun y S2 => (h env S2).bindS env fun u S3 => match x, y, u with
  | .d a, .d b, .d c => .next (((env.set i (some (.d a))).set j (some (.d b))).set l (some (.d c))) S3
  | _, _, _ => .stuck
section
variable {X : Cx} {ca : Str → Addr} {W : WX} {a b c : Expr} {f g h : DE}
theorem js_par3 {i j l : Nat} {x y w : Str} {px py pw pt pos : Pos} {kt k2 pt2} (hc : X.calm = true) (hN : X.N.Nodup) (hi : X.N[i]? = some x) (hj : X.N[j]? = some y) (hl : X.N[l]? = some w) (hij : i ≠ j) (hil : i ≠ l) (hjl : j ≠ l)
    (hx : X.env.scope.names.lookup x = some .local) (hy : X.env.scope.names.lookup y = some .local) (hw' : X.env.scope.names.lookup w = some .local) (ha : JE X ca W a f) (hb : JE X ca W b g) (hcc : JE X ca W c h)
    (hw : swappedStores [.Tuple [.Name x px, .Name y py, .Name w pw] kt pt] (.Tuple [a, b, c] k2 pt2) X.env = pure (some [x, y, w]))
    (hs : swapsWithSole [.Tuple [.Name x px, .Name y py, .Name w pw] kt pt] (.Tuple [a, b, c] k2 pt2) pos.line X.env = pure false := by rfl) (hs1 : starEach [a, b, c] X.env = (false, eval a X.env) :: starEach [b, c] X.env := by rfl) (hs2 : starEach [b, c] X.env = (false, eval b X.env) :: starEach [c] X.env := by rfl) (hs3 : starEach [c] X.env = (false, eval c X.env) :: starEach [] X.env := by rfl) :
    JS X ca W (.Assign [.Tuple [.Name x px, .Name y py, .Name w pw] kt pt] (.Tuple [a, b, c] k2 pt2) pos) (par3D i j l f g h) := fun z =>
  imp_s (ps_par3 hc hN hi hj hl hij hil hjl hx hy hw' (pa_cons ha (pa_cons hb (pa_cons hcc pa_nil hs3) hs2) hs1) hw hs) fun D σ H ⟨F, ρ, S, env, s, p⟩ =>
    ts1 (D := D) s p fun x S1 v F1 H1 ρ1 n s1 r p1 => ts1 (D := D) s1 p1 fun y S2 w F2 H2 ρ2 n2 s2 r2 p2 => ts1 (D := D) s2 p2 fun u S3 t F3 H3 ρ3 n3 s3 r3 p3 => by
      cases x with
      | d x =>
        cases y with
        | d y =>
          cases u with
          | d u =>
            have rx : Dr X.K F3 v x := Dr.mono n3.stp.fz (Dr.mono n2.stp.fz r)
            have ry : Dr X.K F3 w y := Dr.mono n3.stp.fz r2
            have t1 := s3.setSlot (ev := .d x) i (v := v) rx (fun o => nomatch o)
            have t2 := t1.setSlot (ev := .d y) j (v := w) ry (fun o => nomatch o)
            have t3 := t2.setSlot (ev := .d u) l (v := t) r3 (fun o => nomatch o)
            exact ⟨v, w, t, rfl, p3 _ F3 H3 ρ3 (Same.refl _) t3⟩
          | _ => exact p3.elim
        | _ => cases u <;> exact p3.elim
      | _ => cases y <;> cases u <;> exact p3.elim
end
/-! ### tuple(range(a, b)) -/
noncomputable def rg2G (a b : PyData) : Option EV := match a, b with
  | .int i, .int j => @ite _ (-(2 ^ 61) ≤ i ∧ i ≤ 2 ^ 61 ∧ -(2 ^ 61) ≤ j ∧ j ≤ 2 ^ 61 ∧ j - i ≤ 16777216) (Classical.propDecidable _) (some (.d (.tuple (rngL i (j - i).toNat)))) none
  | _, _ => none
noncomputable abbrev tupRg2E : DE → DE → DE := RE2 (vOp rg2G)
section
variable {X : Cx} {ca : Str → Addr} {W : WX} {a b : Expr} {fa fb : DE}
theorem rng2_rep {F : Hp} {i j : Int} : DrAll X.K F (rgV i j) (rngL i (j - i).toNat) := by
  unfold rgV rngL
  have : ∀ l : List Nat, DrAll X.K F (l.map fun k => V.int (i + (k : Nat))) (l.map fun k => PyData.int (i + (k : Nat))) := fun l => by
    induction l with
    | nil => exact .nil
    | cons x l ih => exact .cons (.int _) ih
  exact this _
theorem opv_rg2 : OpV X.K ca W (fun v u H Q => ∃ i j, v = .int i ∧ u = .int j ∧ RgOk i j ∧ ∀ q, H q = none → Q (.ref q) (upd H q (.tup (rgV i j)))) rg2G := by
  intro H0 env σ F H ρ F' H' ρ' S' v1 v2 a b ev Q n r1 r2 e p
  unfold rg2G at e
  split at e
  · rename_i i j
    by_cases h : -(2 ^ 61) ≤ i ∧ i ≤ 2 ^ 61 ∧ -(2 ^ 61) ≤ j ∧ j ≤ 2 ^ 61 ∧ j - i ≤ 16777216
    · rw [if_pos h] at e
      cases e
      cases r1
      cases r2
      exact ⟨_, _, rfl, rfl, ⟨by omega, by omega, by omega, by omega, by omega⟩, fun q hq => fin_t n p (rng2_rep (X := X)) hq⟩
    · rw [if_neg h] at e
      cases e
  · cases e
theorem je_tupRg2 {p p2 pos pos2 : Pos} (hc : X.calm = true) (hg : Gl X "tuple") (hm : X.mg "tuple" = none) (hg2 : Gl X "range") (hm2 : X.mg "range" = none) (h : JE X ca W a fa) (h2 : JE X ca W b fb) (na : starEach [a, b] X.env = (false, eval a X.env) :: starEach [b] X.env := by rfl)
    (na2 : starEach [b] X.env = (false, eval b X.env) :: starEach [] X.env := by rfl) (hp : (backTo pos2 (starEach [b] X.env)).any (·.1) = false := by rfl)
    (nb : starEach [.Call (.Name "range" p2) [a, b] [] pos2] X.env = (false, eval (.Call (.Name "range" p2) [a, b] [] pos2) X.env) :: starEach [] X.env := by rfl) : JE X ca W (.Call (.Name "tuple" p) [.Call (.Name "range" p2) [a, b] [] pos2] [] pos) (tupRg2E fa fb) :=
  imp_e (pe_tupRg hc hg hm (prg_2 hg2 hm2 h h2 na na2 hp) nb) fun σ H Q h => te_op (opv_rg2 (X := X)).d h
end
end DL

set_option Elab.async false
set_option linter.all false
set_option maxRecDepth 100000
set_option maxHeartbeats 4000000
/-! DL21: set(a) != set(b), sets of ints and texts. -/
namespace DL
open PySem PySem.Spec PyProof.Rows L2
section
variable {κ : Type} [DecidableEq κ] {prog : Program} {w : World} {A : Around} {E : Value → Shared → Prop} {s : Shared} {knd : PySem.KeyKind prog w κ}
theorem entry_set_ne : entryFor table "set.__ne__" = some Builtin.«frozenset.__ne__» :=
  entryFor_alias (id' := "frozenset.__ne__") (by kernel_rfl) rfl (by decide +kernel) (by kernel_rfl)
theorem sub_set_set : isSubtype (.type "set") (.type "set") = pure true := by rw [isSubtype_type]; kernel_rfl
theorem sub_set_frozen : isSubtype (.type "set") (.type "frozenset") = pure false := by rw [isSubtype_type]; kernel_rfl
theorem quiet_not_ref {x : Value} {Q : Bool → Shared → Prop} (h : ∀ a, x ≠ .ref a) (q : Q true s) : wpAny (model prog w) A (Builtin.Frozenset.quietEq x) Q E s := by
  unfold Builtin.Frozenset.quietEq
  cases x with
  | ref a => exact absurd rfl (h a)
  | _ => exact wpAny_pure q
theorem walk_quiet {a : Addr} {L : List (Int × Value)} {es : List (Int × Value)} {Q : List (Int × Value) → Shared → Prop} (hL : ∀ e ∈ L, ∀ a, e.2 ≠ .ref a) (q : Q es s) :
    wpAny (model prog w) A (do
      for (_, x) in L do
        if !(← Builtin.Frozenset.quietEq x) then return ← Builtin.Frozenset.walk a
      return es) Q E s := by
  induction L with
  | nil => exact wpAny_pure q
  | cons e L ih =>
    simp only [List.forIn_cons, bind_assoc]
    refine wpAny_bind (quiet_not_ref (hL e (.head _)) ?_)
    simp only [Bool.not_true, Bool.false_eq_true, if_false, pure_bind]
    exact ih fun x hx => hL x (.tail _ hx)
theorem unchanged_of {a : Addr} {o : Obj} {es : Array (Int × Value)} {ep : Nat} {t : SetTable} (ho : s.heap.get? a = some o) (hd : o.data = .set es ep t) (hf : t.fits es.size = true) {id : String} {Q : Unit → Shared → Prop} (q : Q () s) :
    wpAny (model prog w) A (Builtin.Frozenset.unchanged id a ep) Q E s := by
  unfold Builtin.Frozenset.unchanged
  refine wpAny_bind (wpAny_setEpoch_of ho hd hf ?_)
  simp only [bne_self_eq_false, Bool.false_eq_true, if_false]
  exact wpAny_pure q
theorem sub_loop {a b : Addr} {o : Obj} {es : Array (Int × Value)} {ep : Nat} {t : SetTable} {S : κ → Bool} {m : Nat} (ho : s.heap.get? a = some o) (hd : o.data = .set es ep t) (hf : t.fits es.size = true) (hS : s.heap.SetOf knd b S m) {id : String}
    {L : List (Int × Value)} (hL : ElemsOf knd L) {Q : Bool → Shared → Prop} (q : ∀ r : Bool, (r = true ↔ ∀ e ∈ L, ∀ k, knd.is k e.2 = true → S k = true) → Q r s) :
    wpAny (model prog w) A (do
      for (h, x) in L do
        if (← holding [x] (setFind b x h)).isNone then return false
        Builtin.Frozenset.unchanged id a ep
      return true) Q E s := by
  induction L with
  | nil => exact wpAny_pure (q true ⟨fun _ e he => (nomatch he), fun _ => rfl⟩)
  | cons e L ih =>
    obtain ⟨⟨k, hk, hh⟩, sc⟩ := hL.head
    simp only [List.forIn_cons, bind_assoc]
    rw [hh]
    refine wpAny_bind (wpAny_holding (wpAny_setFind_of hk sc hS fun r hr => ?_))
    have only : ∀ k', knd.is k' e.2 = true → k' = k := fun k' h => by
      have := KeyKind.is_eq_decide hk k'
      rw [h] at this
      exact of_decide_eq_true this.symm
    cases r with
    | none =>
      simp only [Option.isNone_none, if_true, pure_bind]
      refine wpAny_pure (q false ⟨fun h => (nomatch h), fun h => ?_⟩)
      have := h e (.head _) k hk
      rw [← hr] at this
      exact this
    | some j =>
      simp only [Option.isNone_some, Bool.false_eq_true, if_false, pure_bind, bind_assoc]
      refine wpAny_bind (unchanged_of ho hd hf ?_)
      refine ih (fun x hx => hL x (.tail _ hx)) fun r hr2 => q r (hr2.trans ⟨fun h x hx k' hk' => ?_, fun h x hx => h x (.tail _ hx)⟩)
      cases hx with
      | head => rw [only k' hk', ← hr]; rfl
      | tail _ hx => exact h x hx k' hk'
/-- a != b, two sets -/
theorem ne_sets {a b : Addr} {S T : κ → Bool} {n m : Nat} (hu : A.units < cLine) (hkn : ∀ k x, knd.is k x = true → ∀ c, x ≠ .ref c) (hS : s.heap.SetOf knd a S n) (hT : s.heap.SetOf knd b T m) {Q : Value → Shared → Prop}
    (q : ∀ r : Bool, (r = true ↔ ¬ (n = m ∧ ∀ k, S k = true → T k = true)) → Q (.bool r) s) : wpAny (model prog w) A (compareOp .NotEq (.ref a) (.ref b)) Q E s := by
  obtain ⟨o, es, ep, t, ho, hex, hd, hel, hmem, hb, hf, hsz⟩ := id hS
  obtain ⟨o2, es2, ep2, t2, ho2, hex2, hd2, hel2, hmem2, hb2, hf2, hsz2⟩ := id hT
  change wpAny _ _ (richCompare .NotEq (.ref a) (.ref b)) Q E s
  refine wpAny_richCompare_same_room hS.typeIs hT.typeIs F.slot_set_ne (wpAny_call_entry F.slot_set_ne hS.typeIs entry_set_ne ?_ (F.args_set_ne_2 _ _)) hu
  change wpAny _ _ (Builtin.Frozenset.slot1 "__ne__" _ >>= _) _ _ _
  refine wpAny_bind (wpAny_of_eq (a := (Value.ref a, Value.ref b)) rfl ?_)
  change wpAny _ _ (Builtin.Frozenset.isAnySet (.ref b) >>= _) _ _ _
  unfold Builtin.Frozenset.isAnySet
  refine wpAny_bind (wpAny_bind (wpAny_isInstance hT.typeIs sub_set_set ?_))
  refine wpAny_pure ?_
  simp only [Bool.not_true, Bool.false_eq_true, if_false, pure_bind]
  change wpAny _ _ (Builtin.Frozenset.addrOf (.ref a) >>= _) _ _ _
  refine wpAny_bind (wpAny_of_eq (a := a) rfl ?_)
  change wpAny _ _ (Builtin.Frozenset.addrOf (.ref b) >>= _) _ _ _
  refine wpAny_bind (wpAny_of_eq (a := b) rfl ?_)
  change wpAny _ _ (Builtin.Frozenset.sizeOf a >>= _) _ _ _
  unfold Builtin.Frozenset.sizeOf
  refine wpAny_bind (wpAny_bind (wpAny_setEntries_of ho hd hf (wpAny_pure ?_)))
  refine wpAny_bind (wpAny_bind (wpAny_setEntries_of ho2 hd2 hf2 (wpAny_pure ?_)))
  by_cases e : es.size = es2.size
  · have e1 : ¬ ((es.size != es2.size) = true) := by simp [e]
    refine wpAny_bind ?_
    rw [if_neg e1]
    refine wpAny_bind (wpAny_bind (wpAny_isInstance hS.typeIs sub_set_frozen ?_))
    refine wpAny_pure ?_
    simp only [Bool.false_eq_true, if_false]
    unfold Builtin.Frozenset.subsetOf Builtin.Frozenset.sizeOf
    refine wpAny_bind (wpAny_bind (wpAny_setEntries_of ho hd hf (wpAny_pure ?_)))
    refine wpAny_bind (wpAny_bind (wpAny_setEntries_of ho2 hd2 hf2 (wpAny_pure ?_)))
    rw [if_neg (show ¬ es.size > es2.size by omega)]
    refine wpAny_bind (wpAny_setEpoch_of ho hd hf ?_)
    unfold Builtin.Frozenset.walkUnseen
    refine wpAny_bind (wpAny_bind (wpAny_setEntries_of ho hd hf ?_))
    refine wpAny_bind (wpAny_setEntries_of ho2 hd2 hf2 ?_)
    refine walk_quiet (fun x hx c => ?_) ?_
    · rcases List.mem_append.mp hx with hx | hx
      · obtain ⟨k, hk⟩ := hel.keys x hx
        exact hkn k _ hk c
      · obtain ⟨k, hk⟩ := hel2.keys x hx
        exact hkn k _ hk c
    refine sub_loop ho hd hf hT hel fun r hr => ?_
    refine wpAny_pure ⟨_, rfl, fun z => (nomatch z), q _ ?_⟩
    have := hmem
    cases r with
    | true =>
      have h1 := hr.mp rfl
      refine ⟨fun z => (nomatch z), fun z => absurd ⟨by omega, fun k hk => ?_⟩ z⟩
      obtain ⟨x, hx, hk2⟩ := (hmem k).mp hk
      exact h1 x hx k hk2
    | false =>
      refine ⟨fun _ z => ?_, fun _ => rfl⟩
      exact (nomatch (hr.mpr fun x hx k hk => z.2 k ((hmem k).mpr ⟨x, hx, hk⟩)))
  · have e1 : (es.size != es2.size) = true := by simp [e]
    refine wpAny_bind ?_
    rw [if_pos e1]
    refine wpAny_pure (wpAny_pure ⟨_, rfl, fun z => (nomatch z), q _ ⟨fun _ z => e (by omega), fun _ => rfl⟩⟩)
end

/-- the keys of a list or a tuple -/
def keysG : PyData → Option (List Key)
  | .list xs => match keysD xs with
    | some ks => if ks.length ≤ 4000 then some ks else none
    | none => none
  | .tuple xs => match keysD xs with
    | some ks => if ks.length ≤ 4000 then some ks else none
    | none => none
  | _ => none
/-- whether they differ as sets -/
def neSets (ks ls : List Key) : Bool := !(decide ((dd ks).length = (dd ls).length) && ks.all fun k => hasK ls k)
theorem hasK_dd1 (acc : List Key) (v k : Key) : hasK (dd1 acc v) k = (hasK acc k || decide (k = v)) := dd1_any acc v k
theorem hasK_dd (ks : List Key) (k : Key) : hasK (dd ks) k = hasK ks k := by
  have h : ∀ (l acc : List Key), hasK (l.foldl dd1 acc) k = (hasK acc k || hasK l k) := fun l => by
    induction l with
    | nil => intro acc; simp [hasK]
    | cons x l ih =>
      intro acc
      rw [List.foldl_cons, ih, dd1_any]
      unfold hasK
      simp only [List.any_cons]
      rw [Bool.or_assoc]
      congr 2
      exact decide_eq_decide.mpr ⟨Eq.symm, Eq.symm⟩
  have := h ks []
  rw [show hasK [] k = false from rfl, Bool.false_or] at this
  exact this
theorem neSets_iff {ks ls : List Key} {r : Bool} (h : r = true ↔ ¬ ((dd ks).length = (dd ls).length ∧ ∀ k, hasK (dd ks) k = true → hasK (dd ls) k = true)) : r = neSets ks ls := by
  have e : neSets ks ls = true ↔ ¬ ((dd ks).length = (dd ls).length ∧ ∀ k, hasK (dd ks) k = true → hasK (dd ls) k = true) := by
    unfold neSets
    rw [Bool.not_eq_true', ← Bool.not_eq_true, Bool.and_eq_true, decide_eq_true_eq, List.all_eq_true]
    constructor
    · rintro z ⟨h1, h2⟩
      refine z ⟨h1, fun k hk => ?_⟩
      have := h2 k (by rw [hasK_dd]; exact List.any_eq_true.mpr ⟨k, hk, decide_eq_true rfl⟩)
      rwa [hasK_dd] at this
    · rintro z ⟨h1, h2⟩
      refine z ⟨h1, fun k hk => ?_⟩
      rw [hasK_dd] at hk ⊢
      obtain ⟨x, hx, ex⟩ := List.any_eq_true.mp hk
      rw [← of_decide_eq_true ex]
      exact h2 x hx
  exact Bool.eq_iff_iff.mpr (h.trans e.symm)
section
variable {X : Cx}
def rNeSet (P : Program) (w : World) : R2 := fun x y H Q => ∃ (a b : Addr) (S T : Key → Bool) (n m : Nat), x = V.ref a ∧ y = V.ref b ∧ H a = some (SetK P w a S n) ∧ H b = some (SetK P w b T m) ∧ ∀ r : Bool, (r = true ↔ ¬ (n = m ∧ ∀ k, S k = true → T k = true)) → Q (.bl r) H
theorem op_neSet (hu : X.A.units < cLine) : OpR X (compareOp .NotEq) (rNeSet X.prog X.w) := by
  intro pins s σ H x y v u Q I rx ry h
  obtain ⟨a, b, S, T, n, m, rfl, rfl, ha, hb, q⟩ := h
  cases rx
  cases ry
  refine ne_sets (knd := mixKind X.prog X.w) hu (fun k x hx c z => ?_) (setK_get I ha) (setK_get I hb) fun r hr => ⟨.bl r, H, I, rfl, q r hr⟩
  rcases keyIs_shape hx with ⟨i, t, _, e⟩ | ⟨i, t, _, e⟩ <;> rw [e] at z <;> cases z
variable {K : PySem.W.Frag} {ca : Str → Addr} {W : WX}
theorem set_rep {P : Program} {w : World} {F H : Hp} {v : V} {d : PyData} {ks : List Key} (fz : Same F H) (r : Vw K F H v d) (e : keysG d = some ks) {Q : VK} (q : ∀ p, H p = none → Q (.ref p) (upd H p (SetK P w p (fun k => hasK (dd ks) k) (dd ks).length))) : rSetOf P w K [v] H Q := by
  have go : ∀ {xs : List PyData} {ks' : List Key} {vs : List V} {b : Addr}, v = .ref b → keysD xs = some ks' → DrAll K F vs xs → (SqL K H b vs ∨ SqT K H b vs) → ks'.length ≤ 4000 → ks' = ks → rSetOf P w K [v] H Q := fun {xs ks' vs b} ev1 q1 d1 hq h4 ee => by
    subst ev1 ee
    have e := keys_rep d1 q1
    subst e
    exact ⟨_, ks', rfl, ⟨b, rfl, hq⟩, h4, q⟩
  unfold keysG at e
  split at e
  · split at e
    · rename_i ks' q1
      split at e
      · rename_i h4
        cases e
        obtain ⟨b, vs, e1, h1, d1⟩ := r
        exact go e1 q1 d1 (.inl (SqL.of h1)) h4 rfl
      · cases e
    · cases e
  · split at e
    · rename_i ks' q1
      split at e
      · rename_i h4
        cases e
        cases r with
        | tup h1 d1 => exact go rfl q1 d1 (.inr (same_t fz h1)) h4 rfl
      · cases e
    · cases e
  · cases e
end
/-- set(a) != set(b) -/
def neSetE (fa fb : DE) : DE := fun env S => (fa env S).bind fun x S1 => match (x.view S1).bind keysG with
  | some ks => (fb env S1).bind fun y S2 => match (y.view S2).bind keysG with
    | some ls => .ok (bE (neSets ks ls)) S2
    | none => .stuck
  | none => .stuck
section
variable {X : Cx} {ca : Str → Addr} {W : WX} {a b : Expr} {fa fb : DE} {p p2 pos pos2 pos3 : Pos}
theorem te_neSet {P : Program} {w : World} {K : PySem.W.Frag} {σ : L2.St} {H : Hp} {Q : VK} (h : dTE K ca W (neSetE fa fb) σ H Q) :
    tOp (rNeSet P w) (fun σ H Q => dTE K ca W fa σ H fun v H1 => rSetOf P w K [v] H1 Q) (fun σ H Q => dTE K ca W fb σ H fun v H1 => rSetOf P w K [v] H1 Q) σ H Q :=
  te1 h fun H0 F ρ S env s x S1 v F1 H1 ρ1 n r1 po => by
    cases q1 : x.view S1 with
    | none => simp only [q1, Option.bind_none] at po; exact po.elim
    | some d =>
      simp only [q1, Option.bind_some] at po
      cases q2 : keysG d with
      | none => simp only [q2] at po; exact po.elim
      | some ks =>
        simp only [q2] at po
        refine set_rep n.sim.fz (vw_of n.sim r1 q1) q2 fun pt hp => ?_
        refine te2 (n.newO hp) po fun y S2 v2 F2 H2 ρ2 n2 st r2 p2 => ?_
        cases q3 : y.view S2 with
        | none => simp only [q3, Option.bind_none] at p2; exact p2.elim
        | some d2 =>
          simp only [q3, Option.bind_some] at p2
          cases q4 : keysG d2 with
          | none => simp only [q4] at p2; exact p2.elim
          | some ls =>
            simp only [q4] at p2
            refine set_rep n2.sim.fz (vw_of n2.sim (r2.base (n.newO hp).stp.mono) q3) q4 fun pu hu => ?_
            have k1 := st.fr pt _ (n.sim.notin hp) upd_same
            have ne : pt ≠ pu := fun z => by
              rw [z, hu] at k1
              cases k1
            refine ⟨pt, pu, _, _, _, _, rfl, rfl, (upd_ne ne).trans k1, upd_same, fun r hr => ?_⟩
            rw [neSets_iff hr]
            exact fin_d (n2.newO hu) p2 (.bl _)
theorem je_neSet (hc : X.calm = true) (hu : X.A.units < cLine) (hg2 : Gl X "set") (hm2 : X.mg "set" = none) (h : JE X ca W a fa) (h2 : JE X ca W b fb) (he : starEach [a] X.env = (false, eval a X.env) :: starEach [] X.env := by rfl) (he2 : starEach [b] X.env = (false, eval b X.env) :: starEach [] X.env := by rfl)
    (hm : behindInMarks .NotEq (.Call (.Name "set" p2) [b] [] pos2) = false := by rfl) : JE X ca W (.Compare (.Call (.Name "set" p) [a] [] pos) [.NotEq] [.Call (.Name "set" p2) [b] [] pos2] pos3) (neSetE fa fb) :=
  imp_e (pe_cmpR (op_neSet hu) (pe_callTy (call_set1 hc) hg2 hm2 PyProof.Rows.boot_set (pa_cons h pa_nil he) (he := he)) (pe_callTy (call_set1 hc) hg2 hm2 PyProof.Rows.boot_set (pa_cons h2 pa_nil he2) (he := he2)) hm) fun σ H Q h => te_neSet h
theorem jt_neSet (hc : X.calm = true) (hu : X.A.units < cLine) (hg2 : Gl X "set") (hm2 : X.mg "set" = none) (h : JE X ca W a fa) (h2 : JE X ca W b fb) (he : starEach [a] X.env = (false, eval a X.env) :: starEach [] X.env := by rfl) (he2 : starEach [b] X.env = (false, eval b X.env) :: starEach [] X.env := by rfl)
    (hm : behindInMarks .NotEq (.Call (.Name "set" p2) [b] [] pos2) = false := by rfl) : JT X ca W (.Compare (.Call (.Name "set" p) [a] [] pos) [.NotEq] [.Call (.Name "set" p2) [b] [] pos2] pos3) (neSetE fa fb) :=
  imp_t (pt_cmpR (op_neSet hu) (pe_callTy (call_set1 hc) hg2 hm2 PyProof.Rows.boot_set (pa_cons h pa_nil he) (he := he)) (pe_callTy (call_set1 hc) hg2 hm2 PyProof.Rows.boot_set (pa_cons h2 pa_nil he2) (he := he2)) hm) fun σ H Q h => te_neSet (tt_te h)
end
theorem room0 {k : Nat} {A : Around} (r : Room k A) : A.units < cLine := by have := r.un; omega
/-! ### an own list or dict that is fixed at once -/
def fixE (f : DE) : DE := fun env S => (f env S).bind fun x S1 => match x.fixed with
  | some v => .ok v S1
  | none => .stuck
@[simp] theorem fixE_ap {f : DE} {env : Env} {S : Store} : fixE f env S = (f env S).bind fun x S1 => match x.fixed with
  | some v => .ok v S1
  | none => .stuck := rfl
section
variable {X : Cx} {ca : Str → Addr} {W : WX} {a : Expr} {f : DE}
theorem te_fix {K : PySem.W.Frag} {σ : L2.St} {H : Hp} {Q : VK} (h : dTE K ca W (fixE f) σ H Q) : dTE K ca W f σ H Q :=
  te1 h fun H0 F ρ S env s x S1 v F1 H1 ρ1 n r p => by
    cases q : x.fixed with
    | none => simp only [q] at p; exact p.elim
    | some x' =>
      simp only [q] at p
      obtain ⟨F2, n2, sm, r2⟩ := n.fixed s.old r q
      refine p v F2 H1 ρ1 n2 ?_
      cases x' with
      | bor xs => cases x <;> cases q
      | borD xs => cases x <;> cases q
      | _ => exact r2
theorem je_fix (h : JE X ca W a f) : JE X ca W a (fixE f) := imp_e h fun σ H Q h => te_fix h
end
end DL

set_option Elab.async false
set_option linter.all false
set_option maxRecDepth 100000
set_option maxHeartbeats 0
namespace U
open PySem PySem.Spec PyProof.Rows L2 DL
noncomputable section
def g_is_name : DS := retS (andE (isiE "str" (rdE 0)) (inE (rdE 0) (cE (.tuple [(.str ("a" : Str)), (.str ("b" : Str)), (.str ("c" : Str))]))))
def F_is_name : DF := fnD 1 g_is_name
def g_is_thing : DS := seqS (ifS (andE (isiE "int" (rdE 0)) (notE (isiE "bool" (rdE 0)))) (retS (chE leG leG (cE (.int 0)) (rdE 0) (cE (.int 99)))) (nopS)) (retS (callE (F_is_name) (asL [rdE 0])))
def F_is_thing : DF := fnD 1 g_is_thing
def g_is_group : DS := retS (andE (isiE "tuple" (rdE 0)) (andE (eqE (lenE (rdE 0)) (cE (.int 2))) (andE (callE (F_is_name) (asL [ixE (rdE 0) (cE (.int 0))])) (isiE "tuple" (ixE (rdE 0) (cE (.int 1)))))))
def F_is_group : DF := fnD 1 g_is_group
def b_all_things_1 (F : DF) : DS := asgO 1 (addE (rdE 1) (ifE (isiE "tuple" (rdE 2)) (callE (F) (asL [ixE (rdE 2) (cE (.int 1))])) (lstE [rdE 2])))
def g_all_things (F : DF) : DS := seqS (asgO 1 (lstE [])) (seqS (forS (itE (rdE 0)) (tgN 2) (b_all_things_1 F)) (retS (rdE 1)))
def F_all_things : Nat → DF
  | 0 => fun _ _ => .stuck
  | d + 1 => fnD 3 (g_all_things (F_all_things d))
def b_group_names_1 (F : DF) : DS := ifS (isiE "tuple" (rdE 2)) (asgF 1 (addE (addE (rdE 1) (lstE [ixE (rdE 2) (cE (.int 0))])) (callE (F) (asL [ixE (rdE 2) (cE (.int 1))])))) (nopS)
def g_group_names (F : DF) : DS := seqS (asgF 1 (lstE [])) (seqS (forS (itE (rdE 0)) (tgN 2) (b_group_names_1 F)) (retS (rdE 1)))
def F_group_names : Nat → DF
  | 0 => fun _ _ => .stuck
  | d + 1 => fnD 3 (g_group_names (F_group_names d))
def b_are_items_1 (F : DF) : DS := seqS (ifS (andE (notE (callE (F_is_thing) (asL [rdE 2]))) (notE (callE (F_is_group) (asL [rdE 2])))) (retS (cE (.bool false))) (nopS)) (ifS (andE (isiE "tuple" (rdE 2)) (orE (eqE (rdE 1) (cE (.int 0))) (notE (callE (F) (asL [ixE (rdE 2) (cE (.int 1)), subE (rdE 1) (cE (.int 1))]))))) (retS (cE (.bool false))) (nopS))
def g_are_items (F : DF) : DS := seqS (ifS (notE (isiE "tuple" (rdE 0))) (retS (cE (.bool false))) (nopS)) (seqS (forS (itE (rdE 0)) (tgN 2) (b_are_items_1 F)) (retS (cE (.bool true))))
def F_are_items : Nat → DF
  | 0 => fun _ _ => .stuck
  | d + 1 => fnD 3 (g_are_items (F_are_items d))
def e_is_right_drawing_1 : DE := ninE (rdE 3) (rdE 1)
def g_is_right_drawing : DS := seqS (ifS (notE (callE (F_are_items 40) (asL [rdE 0, lenE (cE (.tuple [(.str ("a" : Str)), (.str ("b" : Str)), (.str ("c" : Str))]))]))) (retS (cE (.bool false))) (nopS)) (seqS (asgG (tgT [1, 2]) (tupE [callE (F_all_things 40) (asL [rdE 0]), callE (F_group_names 40) (asL [rdE 0])])) (seqS (ifS (orE (gtE (lenE (rdE 1)) (cE (.int 40))) (orE (ltE (lenSetE (rdE 1)) (lenE (rdE 1))) (ltE (lenSetE (rdE 2)) (lenE (rdE 2))))) (retS (cE (.bool false))) (nopS)) (retS (allE (lcE (itE (rdE 2)) [3] (tgN 3) none (e_is_right_drawing_1))))))
def F_is_right_drawing : DF := fnD 4 g_is_right_drawing
def e_is_right_command_1 : DE := callE (F_is_name) (asL [rdE 2])
def g_is_right_command : DS := seqS (ifS (orE (notE (isiE "tuple" (rdE 0))) (orE (eqE (rdE 0) (tupE [])) (notE (isiE "str" (ixE (rdE 0) (cE (.int 0))))))) (retS (cE (.bool false))) (nopS)) (seqS (asgF 1 (slE (rdE 0) (some (cE (.int 1))) none)) (seqS (ifS (orE (notE (allE (lcE (itE (rdE 1)) [2] (tgN 2) none (e_is_right_command_1)))) (ltE (lenSetE (rdE 1)) (lenE (rdE 1)))) (retS (cE (.bool false))) (nopS)) (seqS (ifS (inE (ixE (rdE 0) (cE (.int 0))) (cE (.tuple [(.str ("front" : Str)), (.str ("back" : Str)), (.str ("up" : Str)), (.str ("down" : Str)), (.str ("ungroup" : Str))]))) (retS (eqE (lenE (rdE 1)) (cE (.int 1)))) (nopS)) (seqS (ifS (inE (ixE (rdE 0) (cE (.int 0))) (cE (.tuple [(.str ("above" : Str)), (.str ("below" : Str))]))) (retS (eqE (lenE (rdE 1)) (cE (.int 2)))) (nopS)) (retS (andE (eqE (ixE (rdE 0) (cE (.int 0))) (cE (.str ("group" : Str)))) (eqE (lenE (rdE 1)) (cE (.int 3)))))))))
def F_is_right_command : DF := fnD 3 g_is_right_command
def e_is_right_script_1 : DE := callE (F_is_right_command) (asL [rdE 1])
def g_is_right_script : DS := retS (andE (isiE "tuple" (rdE 0)) (andE (leE (lenE (rdE 0)) (cE (.int 4))) (allE (lcE (itE (rdE 0)) [1] (tgN 1) none (e_is_right_script_1)))))
def F_is_right_script : DF := fnD 2 g_is_right_script
def g_is_drawing : DS := retS (callE (F_is_right_drawing) (asL [rdE 0]))
def F_is_drawing : DF := fnD 1 g_is_drawing
def g_is_plain : DS := retS (andE (callE (F_is_right_drawing) (asL [rdE 0])) (eqE (callE (F_group_names 40) (asL [rdE 0])) (lstE [])))
def F_is_plain : DF := fnD 1 g_is_plain
def g_is_command : DS := retS (callE (F_is_right_command) (asL [rdE 0]))
def F_is_command : DF := fnD 1 g_is_command
def g_is_script : DS := retS (callE (F_is_right_script) (asL [rdE 0]))
def F_is_script : DF := fnD 1 g_is_script
def g__law_source : DS := seqS (asgF 2 (cE (.int 0))) (seqS (ifS (gtE (lenE (rdE 0)) (rdE 1)) (asgF 2 (intE (ixE (rdE 0) (rdE 1)))) (nopS)) (seqS (asgF 3 (modE (addE (addE (mulE (rdE 2) (cE (.int 16807))) (mulE (cE (.int 60919)) (rdE 1))) (cE (.int 31))) (cE (.int 2147481173)))) (seqS (asgF 3 (addE (addE (modE (mulE (rdE 3) (rdE 3)) (cE (.int 2147481151))) (mulE (cE (.int 2)) (rdE 1))) (cE (.int 5)))) (retS (lstE [ifE (geE (rdE 2) (powE (cE (.int 10)) (cE (.int 18)))) (rdE 2) (cE (.int 0)), rdE 3])))))
def F__law_source : DF := fnD 4 g__law_source
def g__law_pick : DS := seqS (ifS (gtE (ixE (rdE 0) (cE (.int 0))) (cE (.int 0))) (seqS (asgF 2 (modE (intE (ixE (rdE 0) (cE (.int 0)))) (rdE 1))) (seqS (setS 0 (cE (.int 0)) (divE (intE (ixE (rdE 0) (cE (.int 0)))) (rdE 1))) (retS (rdE 2)))) (nopS)) (seqS (setS 0 (cE (.int 1)) (modE (intE (addE (mulE (ixE (rdE 0) (cE (.int 1))) (cE (.int 44497))) (cE (.int 9973)))) (cE (.int 2147483647)))) (retS (modE (divE (modE (intE (mulE (ixE (rdE 0) (cE (.int 1))) (ixE (rdE 0) (cE (.int 1))))) (cE (.int 2147483399))) (cE (.int 11))) (rdE 1))))
def F__law_pick : DF := fnD 3 g__law_pick
def g__law_chosen : DS := retS (ixE (rdE 1) (callE (F__law_pick) (asL [rdE 0, lenE (rdE 1)])))
def F__law_chosen : DF := fnD 2 g__law_chosen
def g__law_is_bool : DS := retS (andE (isiE "bool" (rdE 0)) (eqE (rdE 0) (rdE 1)))
def F__law_is_bool : DF := fnD 2 g__law_is_bool
def g__law_wide : DS := retS (andE (isiE "tuple" (rdE 0)) (chE leG leG (rdE 1) (lenE (rdE 0)) (rdE 2)))
def F__law_wide : DF := fnD 3 g__law_wide
def e__law_any_value_1 (F : DF) : DE := callE (F) (asL [rdE 0, subE (rdE 1) (cE (.int 1))])
def g__law_any_value (F : DF) : DS := seqS (asgF 2 (lstE [cE .none, cE (.bool true), cE (.bool false), cE (.int 0), cE (.int 1), cE (.int 5), cE (.int 100), negE (cE (.int 2)), powE (cE (.int 10)) (cE (.int 12)), cE (.str ("" : Str)), cE (.str ("a" : Str)), cE (.str ("ab" : Str)), cE (.str ("d" : Str)), cE (.str ("front" : Str)), cE (.str ("A" : Str)), cE (.str ("z z" : Str)), tupE [], lstE [], tupE [cE (.str ("a" : Str))]])) (seqS (asgF 3 (callE (F__law_pick) (asL [rdE 0, cE (.int 8)]))) (seqS (ifS (orE (ltE (rdE 1) (cE (.int 1))) (ltE (rdE 3) (cE (.int 5)))) (retS (callE (F__law_chosen) (asL [rdE 0, rdE 2]))) (nopS)) (seqS (asgF 4 (lcE (rng1 (callE (F__law_pick) (asL [rdE 0, cE (.int 5)]))) [5] (tgN 5) none (e__law_any_value_1 F))) (retS (ifE (eqE (rdE 3) (cE (.int 5))) (rdE 4) (tupOfE (rdE 4)))))))
def F__law_any_value : Nat → DF
  | 0 => fun _ _ => .stuck
  | d + 1 => fnD 6 (g__law_any_value (F__law_any_value d))
def g__law_variant (F : DF) : DS := seqS (asgO 3 (listOfE (rdE 1))) (seqS (ifS (eqE (rdE 3) (lstE [])) (retS (tupE [callE (F__law_any_value 6) (asL [rdE 0, cE (.int 1)])])) (nopS)) (seqS (parO 4 5 (callE (F__law_pick) (asL [rdE 0, lenE (rdE 3)])) (callE (F__law_pick) (asL [rdE 0, cE (.int 9)]))) (seqS (asgF 6 (ixE (rdE 3) (rdE 4))) (seqS (ifS (andE (isiE "tuple" (rdE 6)) (andE (gtE (rdE 2) (cE (.int 0))) (gtE (rdE 5) (cE (.int 2))))) (retS (addE (addE (tupOfE (slE (rdE 3) none (some (rdE 4)))) (tupE [callE (F) (asL [rdE 0, rdE 6, subE (rdE 2) (cE (.int 1))])])) (tupOfE (slE (rdE 3) (some (addE (rdE 4) (cE (.int 1)))) none)))) (nopS)) (seqS (ifS (eqE (rdE 5) (cE (.int 0))) (retS (tupOfE (addE (slE (rdE 3) none (some (rdE 4))) (slE (rdE 3) (some (addE (rdE 4) (cE (.int 1)))) none)))) (nopS)) (seqS (ifS (eqE (rdE 5) (cE (.int 1))) (retS (tupOfE (addE (slE (rdE 3) none (some (addE (rdE 4) (cE (.int 1))))) (slE (rdE 3) (some (rdE 4)) none)))) (nopS)) (seqS (ifS (eqE (rdE 5) (cE (.int 2))) (retS (tupOfE (addE (addE (slE (rdE 3) none (some (rdE 4))) (revE (slE (rdE 3) (some (rdE 4)) (some (addE (rdE 4) (cE (.int 2))))))) (slE (rdE 3) (some (addE (rdE 4) (cE (.int 2)))) none)))) (nopS)) (seqS (ifS (eqE (rdE 5) (cE (.int 3))) (retS (rdE 3)) (nopS)) (seqS (ifS (ltE (rdE 5) (cE (.int 6))) (setS 3 (rdE 4) (callE (F__law_any_value 6) (asL [rdE 0, cE (.int 2)]))) (seqS (asgF 7 (lstE [cE (.str ("a" : Str)), cE (.str ("b" : Str)), cE (.str ("c" : Str)), cE (.str ("d" : Str)), cE (.str ("front" : Str)), cE (.str ("up" : Str)), cE (.str ("above" : Str)), cE (.str ("group" : Str)), cE (.str ("ungroup" : Str)), tupE [cE (.str ("a" : Str)), tupE []], tupE [cE (.str ("b" : Str)), tupE [cE (.int 7), cE (.int 8)]], tupE [cE (.str ("c" : Str)), tupE [cE (.int 9)]]])) (setS 3 (rdE 4) (callE (F__law_chosen) (asL [rdE 0, addE (rdE 7) (lstE [cE .none, cE (.int 0), cE (.int 1), cE (.int 2), cE (.int 99), cE (.int 100), tupE [], lstE []])]))))) (retS (tupOfE (rdE 3))))))))))))
def F__law_variant : Nat → DF
  | 0 => fun _ _ => .stuck
  | d + 1 => fnD 8 (g__law_variant (F__law_variant d))
def g__law_whole : DS := retS (andE (isiE "int" (rdE 0)) (andE (notE (isiE "bool" (rdE 0))) (chE leG leG (rdE 1) (rdE 0) (rdE 2))))
def F__law_whole : DF := fnD 3 g__law_whole
def g__law_is_name : DS := retS (andE (isiE "str" (rdE 0)) (inE (rdE 0) (tupE [cE (.str ("a" : Str)), cE (.str ("b" : Str)), cE (.str ("c" : Str))])))
def F__law_is_name : DF := fnD 1 g__law_is_name
def b__law_ids_1 (F : DF) : DS := ifS (andE (callE (F__law_wide) (asL [rdE 2, cE (.int 2), cE (.int 2)])) (andE (callE (F__law_is_name) (asL [ixE (rdE 2) (cE (.int 0))])) (isiE "tuple" (ixE (rdE 2) (cE (.int 1)))))) (asgO 1 (addE (addE (rdE 1) (lstE [ixE (rdE 2) (cE (.int 0))])) (callE (F) (asL [ixE (rdE 2) (cE (.int 1))])))) (appS 1 (ifE (orE (callE (F__law_is_name) (asL [rdE 2])) (callE (F__law_whole) (asL [rdE 2, cE (.int 0), cE (.int 99)]))) (rdE 2) (cE .none)))
def g__law_ids (F : DF) : DS := seqS (asgO 1 (lstE [])) (seqS (forS (itE (rdE 0)) (tgN 2) (b__law_ids_1 F)) (retS (rdE 1)))
def F__law_ids : Nat → DF
  | 0 => fun _ _ => .stuck
  | d + 1 => fnD 3 (g__law_ids (F__law_ids d))
def b__law_things_1 (F : DF) : DS := asgF 1 (addE (rdE 1) (ifE (isiE "tuple" (rdE 2)) (callE (F) (asL [ixE (rdE 2) (cE (.int 1))])) (lstE [rdE 2])))
def g__law_things (F : DF) : DS := seqS (asgF 1 (lstE [])) (seqS (forS (itE (rdE 0)) (tgN 2) (b__law_things_1 F)) (retS (rdE 1)))
def F__law_things : Nat → DF
  | 0 => fun _ _ => .stuck
  | d + 1 => fnD 3 (g__law_things (F__law_things d))
def g__law_good_drawing : DS := seqS (ifS (notE (isiE "tuple" (rdE 0))) (retS (cE (.bool false))) (nopS)) (seqS (asgF 1 (callE (F__law_ids 40) (asL [rdE 0]))) (retS (andE (ninE (cE .none) (rdE 1)) (andE (eqE (lenSetE (rdE 1)) (lenE (rdE 1))) (leE (lenE (callE (F__law_things 40) (asL [rdE 0]))) (cE (.int 40)))))))
def F__law_good_drawing : DF := fnD 2 g__law_good_drawing
def c__law_good_command_1 : DE := notE (callE (F__law_is_name) (asL [rdE 3]))
def e__law_good_command_1 : DE := rdE 3
def g__law_good_command : DS := seqS (ifS (orE (notE (isiE "tuple" (rdE 0))) (orE (eqE (rdE 0) (tupE [])) (notE (isiE "str" (ixE (rdE 0) (cE (.int 0))))))) (retS (cE (.bool false))) (nopS)) (seqS (asgF 1 (dictE [(("front" : Str), cE (.int 2)), (("back" : Str), cE (.int 2)), (("up" : Str), cE (.int 2)), (("down" : Str), cE (.int 2)), (("ungroup" : Str), cE (.int 2)), (("above" : Str), cE (.int 3)), (("below" : Str), cE (.int 3)), (("group" : Str), cE (.int 4))])) (seqS (ifS (neE (lenE (rdE 0)) (get2E (rdE 1) (ixE (rdE 0) (cE (.int 0))) (cE (.int 0)))) (retS (cE (.bool false))) (nopS)) (seqS (asgF 2 (listOfE (slE (rdE 0) (some (cE (.int 1))) none))) (retS (andE (eqE (lcE (itE (rdE 2)) [3] (tgN 3) (some (c__law_good_command_1)) (e__law_good_command_1)) (lstE [])) (eqE (lenSetE (rdE 2)) (lenE (rdE 2))))))))
def F__law_good_command : DF := fnD 4 g__law_good_command
def c__law_good_script_1 : DE := notE (callE (F__law_good_command) (asL [rdE 1]))
def e__law_good_script_1 : DE := rdE 1
def g__law_good_script : DS := retS (andE (callE (F__law_wide) (asL [rdE 0, cE (.int 0), cE (.int 4)])) (eqE (lcE (itE (rdE 0)) [1] (tgN 1) (some (c__law_good_script_1)) (e__law_good_script_1)) (lstE [])))
def F__law_good_script : DF := fnD 2 g__law_good_script
def g__law_three : DS := retS (listOfE (callE (F__law_chosen) (asL [rdE 0, lstE [cE (.str ("abc" : Str)), cE (.str ("acb" : Str)), cE (.str ("bac" : Str)), cE (.str ("bca" : Str)), cE (.str ("cab" : Str)), cE (.str ("cba" : Str))]])))
def F__law_three : DF := fnD 1 g__law_three
def g__law_command : DS := seqS (asgG (tgL [1, 2, 3]) (callE (F__law_three) (asL [rdE 0]))) (seqS (asgF 4 (callE (F__law_pick) (asL [rdE 0, cE (.int 12)]))) (seqS (ifS (ltE (rdE 4) (cE (.int 6))) (retS (tupE [ixE (lstE [cE (.str ("front" : Str)), cE (.str ("back" : Str)), cE (.str ("up" : Str)), cE (.str ("down" : Str)), cE (.str ("up" : Str)), cE (.str ("ungroup" : Str))]) (rdE 4), rdE 1])) (nopS)) (seqS (ifS (ltE (rdE 4) (cE (.int 9))) (retS (tupE [ixE (lstE [cE (.str ("above" : Str)), cE (.str ("below" : Str)), cE (.str ("above" : Str))]) (subE (rdE 4) (cE (.int 6))), rdE 1, rdE 2])) (nopS)) (retS (tupE [cE (.str ("group" : Str)), rdE 1, rdE 2, rdE 3])))))
def F__law_command : DF := fnD 5 g__law_command
def e__law_script_1 : DE := callE (F__law_command) (asL [rdE 0])
def g__law_script : DS := retS (tupOfE (lcE (rng1 (callE (F__law_pick) (asL [rdE 0, addE (rdE 1) (cE (.int 1))]))) [2] (tgN 2) none (e__law_script_1)))
def F__law_script : DF := fnD 3 g__law_script
def c__law_mixed_1 : DE := neE (rdE 2) (lstE [])
def b__law_mixed_1 : DS := appPop 3 2 (callE (F__law_pick) (asL [rdE 0, lenE (rdE 2)]))
def g__law_mixed : DS := seqS (parO 2 3 (listOfE (rdE 1)) (lstE [])) (seqS (whD (c__law_mixed_1) (b__law_mixed_1) 200) (retS (rdE 3)))
def F__law_mixed : DF := fnD 4 g__law_mixed
def e__law_drawing_1 : DE := modE (addE (mulE (cE (.int 7)) (rdE 10)) (cE (.int 3))) (cE (.int 100))
def c__law_drawing_1 : DE := andE (ninE (rdE 7) (rdE 3)) (notE (rdE 2))
def e__law_drawing_2 : DE := rdE 7
def b__law_drawing_1 : DS := seqS (asgF 8 (callE (F__law_pick) (asL [rdE 0, addE (lenE (rdE 6)) (cE (.int 1))]))) (seqS (asgF 9 (addE (rdE 8) (callE (F__law_pick) (asL [rdE 0, addE (subE (lenE (rdE 6)) (rdE 8)) (cE (.int 1))])))) (asgF 6 (addE (addE (slE (rdE 6) none (some (rdE 8))) (tupE [tupE [rdE 7, slE (rdE 6) (some (rdE 8)) (some (rdE 9))]])) (slE (rdE 6) (some (rdE 9)) none))))
def g__law_drawing : DS := seqS (asgF 3 (slE (callE (F__law_three) (asL [rdE 0])) none (some (callE (F__law_pick) (asL [rdE 0, cE (.int 4)]))))) (seqS (asgF 4 (lcE (rng1 (callE (F__law_pick) (asL [rdE 0, addE (rdE 1) (cE (.int 1))]))) [10] (tgN 10) none (e__law_drawing_1))) (seqS (asgF 5 (lcE (itE (cE (.str ("abc" : Str)))) [7] (tgN 7) (some (c__law_drawing_1)) (e__law_drawing_2))) (seqS (asgF 5 (slE (rdE 5) none (some (callE (F__law_pick) (asL [rdE 0, cE (.int 3)]))))) (seqS (asgF 6 (tupOfE (callE (F__law_mixed) (asL [rdE 0, addE (rdE 3) (rdE 4)])))) (seqS (forS (itE (rdE 5)) (tgN 7) (b__law_drawing_1)) (retS (rdE 6)))))))
def F__law_drawing : DF := fnD 11 g__law_drawing
def g__law_written : DS := seqS (asgF 0 (lstE [tupE [tupE [], cE (.bool true), cE (.bool true), cE (.bool false)], tupE [tupE [cE (.str ("a" : Str)), cE (.int 0), cE (.int 99)], cE (.bool true), cE (.bool true), cE (.bool false)], tupE [tupE [cE (.int 0), cE (.int 0)], cE (.bool false), cE (.bool false), cE (.bool false)]])) (seqS (asgF 0 (addE (rdE 0) (lstE [tupE [tupE [cE (.int 100)], cE (.bool false), cE (.bool false), cE (.bool false)], tupE [tupE [cE (.bool true)], cE (.bool false), cE (.bool false), cE (.bool false)], tupE [tupE [cE (.str ("d" : Str))], cE (.bool false), cE (.bool false), cE (.bool false)]]))) (seqS (asgF 0 (addE (rdE 0) (lstE [tupE [tupE [tupE [cE (.str ("a" : Str)), tupE []]], cE (.bool true), cE (.bool false), cE (.bool false)], tupE [tupE [tupE [cE (.str ("a" : Str)), tupE [tupE [cE (.str ("b" : Str)), tupE [tupE [cE (.str ("c" : Str)), tupE [cE (.int 1)]]]]]]], cE (.bool true), cE (.bool false), cE (.bool false)]]))) (seqS (asgF 0 (addE (rdE 0) (lstE [tupE [tupE [tupE [cE (.str ("a" : Str)), tupE [cE (.str ("a" : Str))]]], cE (.bool false), cE (.bool false), cE (.bool false)], tupE [tupE [tupE [cE (.str ("a" : Str)), tupE []], cE (.str ("a" : Str))], cE (.bool false), cE (.bool false), cE (.bool false)]]))) (seqS (asgF 0 (addE (rdE 0) (lstE [tupE [tupE [tupE [cE (.str ("a" : Str)), lstE [cE (.int 1)]]], cE (.bool false), cE (.bool false), cE (.bool false)], tupE [tupE [tupE [cE (.str ("a" : Str)), tupE [cE (.int 1)], cE (.int 2)]], cE (.bool false), cE (.bool false), cE (.bool false)]]))) (seqS (asgF 0 (addE (rdE 0) (lstE [tupE [tupRgE (cE (.int 40)), cE (.bool true), cE (.bool true), cE (.bool false)], tupE [tupRgE (cE (.int 41)), cE (.bool false), cE (.bool false), cE (.bool false)]]))) (seqS (asgF 0 (addE (rdE 0) (lstE [tupE [tupE [tupE [cE (.str ("a" : Str)), tupRgE (cE (.int 40))], cE (.int 40)], cE (.bool false), cE (.bool false), cE (.bool false)], tupE [lstE [cE (.int 0)], cE (.bool false), cE (.bool false), cE (.bool false)]]))) (seqS (asgF 0 (addE (rdE 0) (lstE [tupE [tupE [cE (.str ("front" : Str)), cE (.str ("a" : Str))], cE (.bool false), cE (.bool false), cE (.bool true)], tupE [tupE [cE (.str ("up" : Str)), cE (.str ("a" : Str)), cE (.str ("b" : Str))], cE (.bool false), cE (.bool false), cE (.bool false)]]))) (seqS (asgF 0 (addE (rdE 0) (lstE [tupE [tupE [cE (.str ("above" : Str)), cE (.str ("a" : Str)), cE (.str ("b" : Str))], cE (.bool false), cE (.bool false), cE (.bool true)], tupE [tupE [cE (.str ("below" : Str)), cE (.str ("a" : Str))], cE (.bool false), cE (.bool false), cE (.bool false)]]))) (seqS (asgF 0 (addE (rdE 0) (lstE [tupE [tupE [cE (.str ("group" : Str)), cE (.str ("a" : Str)), cE (.str ("b" : Str)), cE (.str ("c" : Str))], cE (.bool false), cE (.bool false), cE (.bool true)], tupE [tupE [cE (.str ("group" : Str)), cE (.str ("a" : Str)), cE (.str ("b" : Str)), cE (.str ("a" : Str))], cE (.bool false), cE (.bool false), cE (.bool false)]]))) (seqS (asgF 0 (addE (rdE 0) (lstE [tupE [tupE [cE (.str ("above" : Str)), cE (.str ("b" : Str)), cE (.str ("b" : Str))], cE (.bool false), cE (.bool false), cE (.bool false)], tupE [tupE [cE (.str ("ungroup" : Str)), cE (.str ("c" : Str))], cE (.bool false), cE (.bool false), cE (.bool true)]]))) (retS (addE (rdE 0) (lstE [tupE [tupE [cE (.str ("group" : Str)), cE (.str ("a" : Str)), cE (.str ("b" : Str))], cE (.bool false), cE (.bool false), cE (.bool false)], tupE [lstE [cE (.str ("up" : Str)), cE (.str ("a" : Str))], cE (.bool false), cE (.bool false), cE (.bool false)]])))))))))))))
def F__law_written : DF := fnD 1 g__law_written
def b_law_1 : DS := seqS (ifS (orE (notE (callE (F__law_is_bool) (asL [callE (F_is_drawing) (asL [rdE 1]), rdE 2]))) (notE (callE (F__law_is_bool) (asL [callE (F_is_plain) (asL [rdE 1]), rdE 3])))) (retS (cE (.bool false))) (nopS)) (ifS (orE (notE (callE (F__law_is_bool) (asL [callE (F_is_command) (asL [rdE 1]), rdE 4]))) (notE (callE (F__law_is_bool) (asL [callE (F_is_script) (asL [tupE [rdE 1]]), rdE 4])))) (retS (cE (.bool false))) (nopS))
def b_law_2 : DS := seqS (asgF 11 (callE (F__law_variant 6) (asL [rdE 6, ifE (ltE (rdE 10) (cE (.int 9))) (rdE 7) (rdE 8), cE (.int 4)]))) (seqS (appS 9 (rdE 11)) (ifS (andE (isiE "tuple" (rdE 11)) (eqE (callE (F__law_pick) (asL [rdE 6, cE (.int 3)])) (cE (.int 0)))) (appS 9 (callE (F__law_variant 6) (asL [rdE 6, rdE 11, cE (.int 4)]))) (nopS)))
def b_law_3 : DS := seqS (asgF 2 (callE (F__law_good_drawing) (asL [rdE 1]))) (seqS (asgF 3 (andE (rdE 2) (andE (eqE (lenE (callE (F__law_ids 40) (asL [rdE 1]))) (lenE (rdE 1))) (eqE (lenE (callE (F__law_things 40) (asL [rdE 1]))) (lenE (rdE 1)))))) (seqS (ifS (orE (notE (callE (F__law_is_bool) (asL [callE (F_is_drawing) (asL [rdE 1]), rdE 2]))) (notE (callE (F__law_is_bool) (asL [callE (F_is_plain) (asL [rdE 1]), rdE 3])))) (retS (cE (.bool false))) (nopS)) (seqS (ifS (notE (callE (F__law_is_bool) (asL [callE (F_is_command) (asL [rdE 1]), callE (F__law_good_command) (asL [rdE 1])]))) (retS (cE (.bool false))) (nopS)) (ifS (notE (callE (F__law_is_bool) (asL [callE (F_is_script) (asL [rdE 1]), callE (F__law_good_script) (asL [rdE 1])]))) (retS (cE (.bool false))) (nopS)))))
def b_law_4 : DS := seqS (asgF 6 (refE (callE (F__law_source) (asL [rdE 0, rdE 5])))) (seqS (parO 7 8 (callE (F__law_drawing) (asL [rdE 6, cE (.int 12), cE (.bool false)])) (callE (F__law_script) (asL [rdE 6, cE (.int 4)]))) (seqS (asgO 9 (addE (lstE [rdE 7, listOfE (rdE 7), rdE 8, listOfE (rdE 8), addE (rdE 7) (rdE 7), cE .none, tupE [], cE (.str ("a" : Str))]) (listOfE (rdE 8)))) (seqS (appS 9 (callE (F__law_any_value 6) (asL [rdE 6, cE (.int 3)]))) (seqS (forS (rng1 (cE (.int 16))) (tgN 10) (b_law_2)) (frzS 9 (forS (itE (rdE 9)) (tgN 1) (b_law_3)))))))
def g_law : DS := seqS (forS (itE (call0E (F__law_written))) (tgT [1, 2, 3, 4]) (b_law_1)) (seqS (forS (rng1 (maxE (cE (.int 6)) (minE (cE (.int 20)) (lenE (rdE 0))))) (tgN 5) (b_law_4)) (retS (andE (notE (callE (F_is_script) (asL [mulE (tupE [tupE [cE (.str ("up" : Str)), cE (.str ("a" : Str))]]) (cE (.int 5))]))) (callE (F_is_script) (asL [mulE (tupE [tupE [cE (.str ("up" : Str)), cE (.str ("a" : Str))]]) (cE (.int 4))])))))
def F_law : DF := fnD 12 g_law
def g_name_of : DS := retS (ifE (isiE "tuple" (rdE 0)) (ixE (rdE 0) (cE (.int 0))) (rdE 0))
def F_name_of : DF := fnD 1 g_name_of
def b_way_to_1 (F : DF) : DS := seqS (ifS (eqE (callE (F_name_of) (asL [rdE 3])) (rdE 1)) (retS (tupE [rdE 2])) (nopS)) (seqS (asgF 4 (ifE (isiE "tuple" (rdE 3)) (callE (F) (asL [ixE (rdE 3) (cE (.int 1)), rdE 1])) (cE .none))) (ifS (isntE (rdE 4)) (retS (addE (tupE [rdE 2]) (rdE 4))) (nopS)))
def g_way_to (F : DF) : DS := seqS (forS (enumE (rdE 0)) (tgT [2, 3]) (b_way_to_1 F)) (retS (cE .none))
def F_way_to : Nat → DF
  | 0 => fun _ _ => .stuck
  | d + 1 => fnD 5 (g_way_to (F_way_to d))
def b_row_at_1 : DS := asgF 0 (ixE (ixE (rdE 0) (rdE 2)) (cE (.int 1)))
def g_row_at : DS := seqS (forS (itE (slE (rdE 1) none (some (subE (lenE (rdE 1)) (cE (.int 1)))))) (tgN 2) (b_row_at_1)) (retS (rdE 0))
def F_row_at : DF := fnD 3 g_row_at
def g_with_row (F : DF) : DS := seqS (ifS (eqE (lenE (rdE 1)) (cE (.int 1))) (retS (rdE 2)) (nopS)) (seqS (asgG (tgT [3, 4]) (ixE (rdE 0) (ixE (rdE 1) (cE (.int 0))))) (retS (addE (addE (slE (rdE 0) none (some (ixE (rdE 1) (cE (.int 0))))) (tupE [tupE [rdE 3, callE (F) (asL [rdE 4, slE (rdE 1) (some (cE (.int 1))) none, rdE 2])]])) (slE (rdE 0) (some (addE (ixE (rdE 1) (cE (.int 0))) (cE (.int 1)))) none))))
def F_with_row : Nat → DF
  | 0 => fun _ _ => .stuck
  | d + 1 => fnD 5 (g_with_row (F_with_row d))
def g_need_drawing : DS := ifS (notE (callE (F_is_right_drawing) (asL [rdE 0]))) (raiseS ("InvalidDrawing" : Str)) (nopS)
def F_need_drawing : DF := fnD 1 g_need_drawing
def g_need_script : DS := ifS (notE (callE (F_is_right_script) (asL [rdE 0]))) (raiseS ("InvalidScript" : Str)) (nopS)
def F_need_script : DF := fnD 1 g_need_script
def g_need_name : DS := ifS (notE (callE (F_is_name) (asL [rdE 0]))) (raiseS ("InvalidName" : Str)) (nopS)
def F_need_name : DF := fnD 1 g_need_name
def g_painted : DS := seqS (exprS (callE (F_need_drawing) (asL [rdE 0]))) (retS (callE (F_all_things 40) (asL [rdE 0])))
def F_painted : DF := fnD 1 g_painted
def b_place_1 : DS := seqS (asgF 3 (addE (rdE 3) (tupE [ixE (ixE (rdE 4) (rdE 5)) (cE (.int 0))]))) (asgF 4 (ixE (ixE (rdE 4) (rdE 5)) (cE (.int 1))))
def g_place : DS := seqS (exprS (callE (F_need_drawing) (asL [rdE 0]))) (seqS (exprS (callE (F_need_name) (asL [rdE 1]))) (seqS (asgF 2 (callE (F_way_to 40) (asL [rdE 0, rdE 1]))) (seqS (ifS (isE (rdE 2)) (retS (cE .none)) (nopS)) (seqS (asgF 3 (tupE [])) (seqS (asgF 4 (rdE 0)) (seqS (forS (itE (slE (rdE 2) none (some (subE (lenE (rdE 2)) (cE (.int 1)))))) (tgN 5) (b_place_1)) (retS (addE (rdE 3) (tupE [ixE (rdE 2) (subE (lenE (rdE 2)) (cE (.int 1)))])))))))))
def F_place : DF := fnD 6 g_place
def b_index_in_1 : DS := ifS (eqE (callE (F_name_of) (asL [rdE 3])) (rdE 1)) (retS (rdE 2)) (nopS)
def g_index_in : DS := seqS (forS (enumE (rdE 0)) (tgT [2, 3]) (b_index_in_1)) (retS (cE .none))
def F_index_in : DF := fnD 4 g_index_in
def g_moved : DS := seqS (asgF 3 (addE (slE (rdE 0) none (some (rdE 1))) (slE (rdE 0) (some (addE (rdE 1) (cE (.int 1)))) none))) (retS (addE (addE (slE (rdE 3) none (some (rdE 2))) (tupE [ixE (rdE 0) (rdE 1)])) (slE (rdE 3) (some (rdE 2)) none)))
def F_moved : DF := fnD 4 g_moved
def g_alone_in : DS := seqS (asgF 3 (subE (lenE (rdE 1)) (cE (.int 1)))) (seqS (ifS (eqE (rdE 0) (cE (.str ("ungroup" : Str)))) (retS (ifE (isiE "tuple" (ixE (rdE 1) (rdE 2))) (addE (addE (slE (rdE 1) none (some (rdE 2))) (ixE (ixE (rdE 1) (rdE 2)) (cE (.int 1)))) (slE (rdE 1) (some (addE (rdE 2) (cE (.int 1)))) none)) (rdE 1))) (nopS)) (seqS (ifS (inE (rdE 0) (tupE [cE (.str ("front" : Str)), cE (.str ("back" : Str))])) (retS (callE (F_moved) (asL [rdE 1, rdE 2, ifE (eqE (rdE 0) (cE (.str ("front" : Str)))) (rdE 3) (cE (.int 0))]))) (nopS)) (retS (callE (F_moved) (asL [rdE 1, rdE 2, ifE (eqE (rdE 0) (cE (.str ("up" : Str)))) (minE (addE (rdE 2) (cE (.int 1))) (rdE 3)) (maxE (subE (rdE 2) (cE (.int 1))) (cE (.int 0)))])))))
def F_alone_in : DF := fnD 4 g_alone_in
def g_beside_in : DS := seqS (asgF 4 (ifE (ltE (rdE 2) (rdE 3)) (subE (rdE 3) (cE (.int 1))) (rdE 3))) (retS (callE (F_moved) (asL [rdE 1, rdE 2, ifE (eqE (rdE 0) (cE (.str ("above" : Str)))) (addE (rdE 4) (cE (.int 1))) (rdE 4)])))
def F_beside_in : DF := fnD 5 g_beside_in
def g_grouped_in : DS := seqS (parO 4 5 (minE (rdE 1) (rdE 2)) (maxE (rdE 1) (rdE 2))) (seqS (asgF 6 (tupE [rdE 3, tupE [ixE (rdE 0) (rdE 4), ixE (rdE 0) (rdE 5)]])) (retS (addE (addE (addE (slE (rdE 0) none (some (rdE 4))) (slE (rdE 0) (some (addE (rdE 4) (cE (.int 1)))) (some (rdE 5)))) (tupE [rdE 6])) (slE (rdE 0) (some (addE (rdE 5) (cE (.int 1)))) none))))
def F_grouped_in : DF := fnD 7 g_grouped_in
def g_behind : DS := seqS (parO 2 3 (ixE (rdE 0) (cE (.int 0))) (slE (rdE 0) (some (cE (.int 1))) none)) (seqS (asgF 4 (callE (F_way_to 40) (asL [rdE 1, ixE (rdE 3) (cE (.int 0))]))) (seqS (ifS (isE (rdE 4)) (retS (rdE 1)) (nopS)) (seqS (parO 5 6 (callE (F_row_at) (asL [rdE 1, rdE 4])) (ixE (rdE 4) (subE (lenE (rdE 4)) (cE (.int 1))))) (seqS (ifS (eqE (lenE (rdE 3)) (cE (.int 1))) (retS (callE (F_with_row 40) (asL [rdE 1, rdE 4, callE (F_alone_in) (asL [rdE 2, rdE 5, rdE 6])]))) (nopS)) (seqS (asgF 7 (callE (F_index_in) (asL [rdE 5, ixE (rdE 3) (cE (.int 1))]))) (seqS (ifS (isE (rdE 7)) (retS (rdE 1)) (nopS)) (seqS (ifS (inE (rdE 2) (cE (.tuple [(.str ("above" : Str)), (.str ("below" : Str))]))) (retS (callE (F_with_row 40) (asL [rdE 1, rdE 4, callE (F_beside_in) (asL [rdE 2, rdE 5, rdE 6, rdE 7])]))) (nopS)) (seqS (ifS (isntE (callE (F_way_to 40) (asL [rdE 1, ixE (rdE 3) (cE (.int 2))]))) (retS (rdE 1)) (nopS)) (retS (callE (F_with_row 40) (asL [rdE 1, rdE 4, callE (F_grouped_in) (asL [rdE 5, rdE 6, rdE 7, ixE (rdE 3) (cE (.int 2))])])))))))))))
def F_behind : DF := fnD 8 g_behind
def b_drawing_behind_1 : DS := asgF 1 (callE (F_behind) (asL [rdE 2, rdE 1]))
def g_drawing_behind : DS := seqS (forS (itE (rdE 0)) (tgN 2) (b_drawing_behind_1)) (retS (rdE 1))
def F_drawing_behind : DF := fnD 3 g_drawing_behind
def g_arranged : DS := seqS (exprS (callE (F_need_script) (asL [rdE 0]))) (seqS (exprS (callE (F_need_drawing) (asL [rdE 1]))) (retS (callE (F_drawing_behind) (asL [rdE 0, rdE 1]))))
def F_arranged : DF := fnD 2 g_arranged
def g__law_called : DS := retS (ifE (isiE "tuple" (rdE 0)) (ixE (rdE 0) (cE (.int 0))) (rdE 0))
def F__law_called : DF := fnD 1 g__law_called
def c__law_spot_of_1 : DE := eqE (callE (F__law_called) (asL [ixE (rdE 0) (rdE 3)])) (rdE 1)
def e__law_spot_of_1 : DE := rdE 3
def g__law_spot_of : DS := seqS (asgF 2 (lcE (rng1 (lenE (rdE 0))) [3] (tgN 3) (some (c__law_spot_of_1)) (e__law_spot_of_1))) (retS (ifE (neE (rdE 2) (lstE [])) (ixE (rdE 2) (cE (.int 0))) (cE .none)))
def F__law_spot_of : DF := fnD 4 g__law_spot_of
def g__law_in_row : DS := seqS (parO 3 4 (ixE (rdE 0) (cE (.int 0))) (callE (F__law_spot_of) (asL [rdE 1, ixE (rdE 0) (cE (.int 1))]))) (seqS (parO 5 6 (ixE (rdE 1) (rdE 4)) (addE (slE (rdE 1) none (some (rdE 4))) (slE (rdE 1) (some (addE (rdE 4) (cE (.int 1)))) none))) (seqS (ifS (eqE (rdE 3) (cE (.str ("ungroup" : Str)))) (retS (ifE (isiE "tuple" (rdE 5)) (addE (addE (slE (rdE 1) none (some (rdE 4))) (ixE (rdE 5) (cE (.int 1)))) (slE (rdE 1) (some (addE (rdE 4) (cE (.int 1)))) none)) (rdE 1))) (nopS)) (seqS (ifS (eqE (rdE 3) (cE (.str ("front" : Str)))) (retS (addE (rdE 6) (tupE [rdE 5]))) (nopS)) (seqS (ifS (eqE (rdE 3) (cE (.str ("back" : Str)))) (retS (addE (tupE [rdE 5]) (rdE 6))) (nopS)) (seqS (ifS (inE (rdE 3) (tupE [cE (.str ("up" : Str)), cE (.str ("down" : Str))])) (seqS (asgF 7 (ifE (eqE (rdE 3) (cE (.str ("up" : Str)))) (addE (rdE 4) (cE (.int 1))) (subE (rdE 4) (cE (.int 1))))) (retS (ifE (chE leG ltG (cE (.int 0)) (rdE 7) (lenE (rdE 1))) (addE (addE (slE (rdE 6) none (some (rdE 7))) (tupE [rdE 5])) (slE (rdE 6) (some (rdE 7)) none)) (rdE 1)))) (nopS)) (seqS (asgF 8 (callE (F__law_spot_of) (asL [rdE 6, ixE (rdE 0) (cE (.int 2))]))) (seqS (ifS (isE (rdE 8)) (retS (rdE 1)) (nopS)) (seqS (ifS (inE (rdE 3) (tupE [cE (.str ("above" : Str)), cE (.str ("below" : Str))])) (seqS (asgF 8 (addE (rdE 8) (intE (eqE (rdE 3) (cE (.str ("above" : Str))))))) (retS (addE (addE (slE (rdE 6) none (some (rdE 8))) (tupE [rdE 5])) (slE (rdE 6) (some (rdE 8)) none)))) (nopS)) (seqS (ifS (inE (ixE (rdE 0) (cE (.int 3))) (rdE 2)) (retS (rdE 1)) (nopS)) (seqS (asgF 9 (ifE (ltE (rdE 8) (rdE 4)) (tupE [ixE (rdE 6) (rdE 8), rdE 5]) (tupE [rdE 5, ixE (rdE 6) (rdE 8)]))) (seqS (asgF 10 (addE (slE (rdE 6) none (some (rdE 8))) (slE (rdE 6) (some (addE (rdE 8) (cE (.int 1)))) none))) (seqS (asgF 8 (subE (maxE (rdE 4) (addE (rdE 8) (intE (geE (rdE 8) (rdE 4))))) (cE (.int 1)))) (retS (addE (addE (slE (rdE 10) none (some (rdE 8))) (tupE [tupE [ixE (rdE 0) (cE (.int 3)), rdE 9]])) (slE (rdE 10) (some (rdE 8)) none)))))))))))))))
def F__law_in_row : DF := fnD 11 g__law_in_row
def b__law_done_1 (F : DF) : DS := seqS (ifS (isiE "tuple" (rdE 4)) (asgF 4 (tupE [ixE (rdE 4) (cE (.int 0)), callE (F) (asL [rdE 0, ixE (rdE 4) (cE (.int 1)), rdE 2])])) (nopS)) (asgF 3 (addE (rdE 3) (tupE [rdE 4])))
def g__law_done (F : DF) : DS := seqS (ifS (isntE (callE (F__law_spot_of) (asL [rdE 1, ixE (rdE 0) (cE (.int 1))]))) (retS (callE (F__law_in_row) (asL [rdE 0, rdE 1, rdE 2]))) (nopS)) (seqS (asgF 3 (tupE [])) (seqS (forS (itE (rdE 1)) (tgN 4) (b__law_done_1 F)) (retS (rdE 3))))
def F__law_done : Nat → DF
  | 0 => fun _ _ => .stuck
  | d + 1 => fnD 5 (g__law_done (F__law_done d))
def b__law_arranged_1 : DS := asgF 1 (callE (F__law_done 40) (asL [rdE 2, rdE 1, callE (F__law_ids 40) (asL [rdE 1])]))
def g__law_arranged : DS := seqS (forS (itE (rdE 0)) (tgN 2) (b__law_arranged_1)) (retS (rdE 1))
def F__law_arranged : DF := fnD 3 g__law_arranged
def g__law_outcome : DS := tryS [("InvalidDrawing" : Str), ("InvalidScript" : Str)] (retS (callE (F_arranged) (asL [rdE 0, rdE 1]))) [(("InvalidScript" : Str), retS (cE (.str ("script!" : Str)))), (("InvalidDrawing" : Str), retS (cE (.str ("drawing!" : Str))))]
def F__law_outcome : DF := fnD 2 g__law_outcome
def b__law_where_1 (F : DF) : DS := ifS (isiE "tuple" (rdE 3)) (seqS (asgF 4 (callE (F) (asL [ixE (rdE 3) (cE (.int 1)), rdE 1]))) (ifS (isntE (rdE 4)) (retS (addE (tupE [ixE (rdE 3) (cE (.int 0))]) (rdE 4))) (nopS))) (nopS)
def g__law_where (F : DF) : DS := seqS (asgF 2 (callE (F__law_spot_of) (asL [rdE 0, rdE 1]))) (seqS (ifS (isntE (rdE 2)) (retS (tupE [rdE 2])) (nopS)) (seqS (forS (itE (rdE 0)) (tgN 3) (b__law_where_1 F)) (retS (cE .none))))
def F__law_where : Nat → DF
  | 0 => fun _ _ => .stuck
  | d + 1 => fnD 5 (g__law_where (F__law_where d))
def g__law_refused : DS := seqS (tryS [("InvalidDrawing" : Str), ("InvalidName" : Str)] (exprS (callE (F_place) (asL [rdE 0, rdE 1]))) [(("InvalidName" : Str), retS (cE (.bool true)))]) (retS (cE (.bool false)))
def F__law_refused : DF := fnD 2 g__law_refused
def c_law_k11_1 : DE := neE (callE (F_place) (asL [rdE 7, rdE 12])) (callE (F__law_where 40) (asL [rdE 7, rdE 12]))
def e_law_k11_1 : DE := rdE 12
def b_law_k11_1 : DS := seqS (parO 4 5 (callE (F__law_script) (asL [rdE 2, cE (.int 4)])) (ixE (lstE [cE (.int 4), cE (.int 12)]) (callE (F__law_pick) (asL [rdE 2, cE (.int 2)])))) (seqS (asgF 6 (callE (F__law_drawing) (asL [rdE 2, rdE 5, cE (.bool false)]))) (seqS (asgF 7 (callE (F__law_outcome) (asL [rdE 4, rdE 6]))) (seqS (ifS (neE (rdE 7) (callE (F__law_arranged) (asL [rdE 4, rdE 6]))) (retS (cE (.bool false))) (nopS)) (seqS (asgO 8 (callE (F_painted) (asL [rdE 7]))) (seqS (ifS (orE (notE (isiE "list" (rdE 8))) (neE (rdE 8) (callE (F__law_things 40) (asL [rdE 7])))) (retS (cE (.bool false))) (nopS)) (seqS (appS 8 (cE (.str ("odd" : Str)))) (seqS (ifS (neE (callE (F_painted) (asL [rdE 7])) (slE (rdE 8) none (some (negE (cE (.int 1)))))) (retS (cE (.bool false))) (nopS)) (ifS (neE (lcE (itE (cE (.str ("abc" : Str)))) [12] (tgN 12) (some (c_law_k11_1)) (e_law_k11_1)) (lstE [])) (retS (cE (.bool false))) (nopS)))))))))
def b_law_k11_2 : DS := ifS (notE (callE (F__law_refused) (asL [rdE 6, rdE 9]))) (retS (cE (.bool false))) (nopS)
def b_law_k11_3 : DS := ifS (orE (neE (callE (F__law_outcome) (asL [rdE 4, rdE 9])) (cE (.str ("drawing!" : Str)))) (neE (callE (F__law_outcome) (asL [listOfE (rdE 4), rdE 9])) (cE (.str ("script!" : Str))))) (retS (cE (.bool false))) (nopS)
def b_law_k11_4 : DS := seqS (asgF 2 (refE (callE (F__law_source) (asL [rdE 0, rdE 1])))) (seqS (forS (rng1 (cE (.int 8))) (tgN 3) (b_law_k11_1)) (seqS (forS (itE (lstE [cE .none, cE (.str ("d" : Str)), cE (.str ("" : Str)), cE (.int 0), tupE [cE (.str ("a" : Str))]])) (tgN 9) (b_law_k11_2)) (forS (itE (lstE [cE .none, cE (.str ("a" : Str)), listOfE (rdE 6), tupE [cE (.int 0), cE (.int 0)], tupE [tupE [cE (.str ("a" : Str)), tupE [cE (.str ("a" : Str))]]]])) (tgN 9) (b_law_k11_3))))
def g_law_k11 : DS := seqS (forS (rng1 (maxE (cE (.int 6)) (minE (cE (.int 24)) (lenE (rdE 0))))) (tgN 1) (b_law_k11_4)) (seqS (asgF 10 (tupE [tupE [cE (.str ("c" : Str)), tupE [cE (.int 0), cE (.str ("a" : Str)), cE (.str ("b" : Str))]], cE (.int 1)])) (seqS (ifS (neE (callE (F_arranged) (asL [tupE [tupE [cE (.str ("group" : Str)), cE (.str ("b" : Str)), cE (.str ("a" : Str)), cE (.str ("c" : Str))], tupE [cE (.str ("up" : Str)), cE (.str ("a" : Str))], tupE [cE (.str ("above" : Str)), cE (.str ("c" : Str)), cE (.str ("a" : Str))]], rdE 10])) (tupE [tupE [cE (.str ("c" : Str)), tupE [cE (.int 0), cE (.str ("b" : Str)), cE (.str ("a" : Str))]], cE (.int 1)])) (retS (cE (.bool false))) (nopS)) (seqS (asgF 11 (tupE [tupE [cE (.str ("group" : Str)), cE (.str ("a" : Str)), cE (.str ("b" : Str)), cE (.str ("c" : Str))], tupE [cE (.str ("ungroup" : Str)), cE (.str ("c" : Str))], tupE [cE (.str ("group" : Str)), cE (.str ("b" : Str)), cE (.str ("c" : Str)), cE (.str ("a" : Str))]])) (seqS (ifS (neE (callE (F_arranged) (asL [rdE 11, tupE [cE (.str ("b" : Str)), cE (.int 0), cE (.str ("a" : Str)), cE (.int 1)]])) (tupE [cE (.int 0), cE (.str ("b" : Str)), cE (.str ("a" : Str)), cE (.int 1)])) (retS (cE (.bool false))) (nopS)) (retS (eqE (slE (callE (F_arranged) (asL [slE (rdE 11) none (some (cE (.int 1))), tupE [cE (.int 0), cE (.str ("b" : Str)), cE (.int 1), cE (.str ("a" : Str))]])) (some (cE (.int 2))) none) (tupE [tupE [cE (.str ("c" : Str)), tupE [cE (.str ("b" : Str)), cE (.str ("a" : Str))]]])))))))
def F_law_k11 : DF := fnD 13 g_law_k11
def c__law_without_1 : DE := ninE (rdE 2) (rdE 1)
def e__law_without_1 : DE := rdE 2
def g__law_without : DS := retS (lcE (itE (rdE 0)) [2] (tgN 2) (some (c__law_without_1)) (e__law_without_1))
def F__law_without : DF := fnD 3 g__law_without
def b__law_within_1 (F : DF) : DS := ifS (isiE "tuple" (rdE 2)) (seqS (ifS (eqE (ixE (rdE 2) (cE (.int 0))) (rdE 1)) (retS (callE (F__law_things 40) (asL [ixE (rdE 2) (cE (.int 1))]))) (nopS)) (seqS (asgF 3 (callE (F) (asL [ixE (rdE 2) (cE (.int 1)), rdE 1]))) (ifS (isntE (rdE 3)) (retS (rdE 3)) (nopS)))) (ifS (eqE (rdE 2) (rdE 1)) (retS (lstE [rdE 1])) (nopS))
def g__law_within (F : DF) : DS := seqS (forS (itE (rdE 0)) (tgN 2) (b__law_within_1 F)) (retS (cE .none))
def F__law_within : Nat → DF
  | 0 => fun _ _ => .stuck
  | d + 1 => fnD 4 (g__law_within (F__law_within d))
def b__law_one_by_one_1 : DS := seqS (asgF 5 (tupOfE (callE (F__law_three) (asL [rdE 0])))) (seqS (asgF 6 (get2E (fixE (dictE [(("above" : Str), cE (.int 2)), (("below" : Str), cE (.int 2)), (("group" : Str), cE (.int 3))])) (rdE 4) (cE (.int 1)))) (seqS (asgF 7 (callE (F_arranged) (asL [tupE [addE (tupE [rdE 4]) (slE (rdE 5) none (some (rdE 6)))], rdE 1]))) (seqS (ifS (orE (notE (callE (F_is_drawing) (asL [rdE 7]))) (neSetE (callE (F__law_things 40) (asL [rdE 7])) (rdE 2))) (retS (cE (.bool false))) (nopS)) (seqS (ifS (andE (ninE (rdE 4) (tupE [cE (.str ("group" : Str)), cE (.str ("ungroup" : Str))])) (neSetE (callE (F__law_ids 40) (asL [rdE 7])) (rdE 3))) (retS (cE (.bool false))) (nopS)) (seqS (asgF 8 (callE (F__law_within 40) (asL [rdE 1, ixE (rdE 5) (cE (.int 0))]))) (seqS (ifS (andE (isE (rdE 8)) (neE (rdE 7) (rdE 1))) (retS (cE (.bool false))) (nopS)) (ifS (andE (isntE (rdE 8)) (neE (rdE 4) (cE (.str ("group" : Str))))) (ifS (neE (callE (F__law_without) (asL [callE (F_painted) (asL [rdE 7]), rdE 8])) (callE (F__law_without) (asL [rdE 2, rdE 8]))) (retS (cE (.bool false))) (nopS)) (nopS))))))))
def g__law_one_by_one : DS := seqS (parO 2 3 (callE (F_painted) (asL [rdE 1])) (callE (F__law_ids 40) (asL [rdE 1]))) (seqS (frzS 3 (frzS 2 (forS (itE (tupE [cE (.str ("front" : Str)), cE (.str ("back" : Str)), cE (.str ("up" : Str)), cE (.str ("down" : Str)), cE (.str ("ungroup" : Str)), cE (.str ("above" : Str)), cE (.str ("below" : Str)), cE (.str ("group" : Str))])) (tgN 4) (b__law_one_by_one_1)))) (retS (cE (.bool true))))
def F__law_one_by_one : DF := fnD 9 g__law_one_by_one
def g__law_ends_right : DS := seqS (asgF 2 (callE (F_place) (asL [rdE 0, rdE 1]))) (seqS (ifS (isE (rdE 2)) (retS (cE (.bool true))) (nopS)) (seqS (parO 3 4 (callE (F_arranged) (asL [tupE [tupE [cE (.str ("front" : Str)), rdE 1]], rdE 0])) (callE (F_arranged) (asL [tupE [tupE [cE (.str ("back" : Str)), rdE 1]], rdE 0]))) (seqS (ifS (orE (neE (slE (callE (F_place) (asL [rdE 3, rdE 1])) none (some (negE (cE (.int 1))))) (slE (rdE 2) none (some (negE (cE (.int 1)))))) (neE (callE (F_place) (asL [rdE 4, rdE 1])) (addE (slE (rdE 2) none (some (negE (cE (.int 1))))) (tupE [cE (.int 0)])))) (retS (cE (.bool false))) (nopS)) (seqS (ifS (orE (neE (callE (F_arranged) (asL [tupE [tupE [cE (.str ("up" : Str)), rdE 1]], rdE 3])) (rdE 3)) (neE (callE (F_arranged) (asL [tupE [tupE [cE (.str ("down" : Str)), rdE 1]], rdE 4])) (rdE 4))) (retS (cE (.bool false))) (nopS)) (seqS (ifS (andE (neE (rdE 0) (rdE 3)) (neE (callE (F_arranged) (asL [tupE [tupE [cE (.str ("up" : Str)), rdE 1], tupE [cE (.str ("down" : Str)), rdE 1]], rdE 0])) (rdE 0))) (retS (cE (.bool false))) (nopS)) (retS (orE (eqE (rdE 0) (rdE 4)) (eqE (callE (F_arranged) (asL [tupE [tupE [cE (.str ("down" : Str)), rdE 1], tupE [cE (.str ("up" : Str)), rdE 1]], rdE 0])) (rdE 0)))))))))
def F__law_ends_right : DF := fnD 5 g__law_ends_right
def g__law_sides_right : DS := seqS (parO 4 5 (callE (F_place) (asL [rdE 0, rdE 1])) (callE (F_place) (asL [rdE 0, rdE 2]))) (seqS (ifS (orE (isE (rdE 4)) (orE (isE (rdE 5)) (neE (slE (rdE 4) none (some (negE (cE (.int 1))))) (slE (rdE 5) none (some (negE (cE (.int 1)))))))) (retS (cE (.bool true))) (nopS)) (seqS (asgF 6 (callE (F_arranged) (asL [tupE [tupE [cE (.str ("above" : Str)), rdE 1, rdE 2]], rdE 0]))) (seqS (ifS (neE (ixE (callE (F_place) (asL [rdE 6, rdE 1])) (negE (cE (.int 1)))) (addE (ixE (callE (F_place) (asL [rdE 6, rdE 2])) (negE (cE (.int 1)))) (cE (.int 1)))) (retS (cE (.bool false))) (nopS)) (seqS (asgF 6 (callE (F_arranged) (asL [tupE [tupE [cE (.str ("below" : Str)), rdE 1, rdE 2]], rdE 0]))) (seqS (ifS (neE (ixE (callE (F_place) (asL [rdE 6, rdE 1])) (negE (cE (.int 1)))) (subE (ixE (callE (F_place) (asL [rdE 6, rdE 2])) (negE (cE (.int 1)))) (cE (.int 1)))) (retS (cE (.bool false))) (nopS)) (seqS (ifS (isntE (callE (F_place) (asL [rdE 0, rdE 3]))) (retS (cE (.bool true))) (nopS)) (seqS (asgF 6 (callE (F_arranged) (asL [tupE [tupE [cE (.str ("group" : Str)), rdE 1, rdE 2, rdE 3], tupE [cE (.str ("ungroup" : Str)), rdE 3]], rdE 0]))) (retS (eqE (subE (ixE (callE (F_place) (asL [rdE 6, rdE 1])) (negE (cE (.int 1)))) (ixE (callE (F_place) (asL [rdE 6, rdE 2])) (negE (cE (.int 1))))) (ifE (gtE (ixE (rdE 4) (negE (cE (.int 1)))) (ixE (rdE 5) (negE (cE (.int 1))))) (cE (.int 1)) (negE (cE (.int 1)))))))))))))
def F__law_sides_right : DF := fnD 7 g__law_sides_right
def b_law_k12_1 : DS := seqS (asgF 2 (refE (callE (F__law_source) (asL [rdE 0, rdE 1])))) (seqS (asgF 3 (callE (F__law_drawing) (asL [rdE 2, cE (.int 10), cE (.bool false)]))) (seqS (asgG (tgL [4, 5, 6]) (callE (F__law_three) (asL [rdE 2]))) (seqS (ifS (orE (notE (callE (F__law_one_by_one) (asL [rdE 2, rdE 3]))) (notE (callE (F__law_ends_right) (asL [rdE 3, rdE 4])))) (retS (cE (.bool false))) (nopS)) (ifS (notE (callE (F__law_sides_right) (asL [rdE 3, rdE 4, rdE 5, rdE 6]))) (retS (cE (.bool false))) (nopS)))))
def g_law_k12 : DS := seqS (forS (rng1 (maxE (cE (.int 6)) (minE (cE (.int 20)) (lenE (rdE 0))))) (tgN 1) (b_law_k12_1)) (retS (cE (.bool true)))
def F_law_k12 : DF := fnD 7 g_law_k12
end
end U

set_option Elab.async false
set_option linter.all false
set_option maxRecDepth 100000
set_option maxHeartbeats 4000000
/-! Q0: what a statement comes to, said by a predicate. -/
namespace DL
open PySem PySem.Spec PyProof.Rows L2

/-- a statement runs through, and this holds then -/
def RS.isNext (P : Env → Store → Prop) : RS → Prop
  | .next e s => P e s
  | _ => False
@[simp] theorem isNext_next {P : Env → Store → Prop} {e : Env} {s : Store} : (RS.next e s).isNext P = P e s := rfl
theorem RS.isNext.elim {P : Env → Store → Prop} {r : RS} (h : r.isNext P) : ∃ e s, r = .next e s ∧ P e s := by
  cases r with
  | next e s => exact ⟨e, s, rfl, h⟩
  | _ => exact False.elim h
theorem isNext_mono {P Q : Env → Store → Prop} {r : RS} (h : r.isNext P) (m : ∀ e s, P e s → Q e s) : r.isNext Q := by
  obtain ⟨e, s, rfl, p⟩ := h.elim
  exact m e s p
theorem isNext_bind {P Q : Env → Store → Prop} {r : RS} {k : Env → Store → RS} (h : r.isNext P) (m : ∀ e s, P e s → (k e s).isNext Q) : (r.bind k).isNext Q := by
  obtain ⟨e, s, rfl, p⟩ := h.elim
  exact m e s p
theorem isNext_seq {P Q : Env → Store → Prop} {g1 g2 : DS} {env : Env} {S : Store} (h : (g1 env S).isNext P) (m : ∀ e s, P e s → (g2 e s).isNext Q) : (seqS g1 g2 env S).isNext Q := isNext_bind h m
theorem forD_next {t : DG} {g : DS} (I : Env → Store → Prop) : ∀ (xs : List PyData) (env : Env) (S : Store), I env S → (∀ x, x ∈ xs → ∀ env S, I env S → ∃ env1, t (.d x) env = some env1 ∧ (g env1 S).isNext I) → (forD t g xs env S).isNext I
  | [], env, S, h, _ => h
  | x :: xs, env, S, h, hs => by
    obtain ⟨env1, e1, q⟩ := hs x List.mem_cons_self env S h
    obtain ⟨e, s, e2, p⟩ := q.elim
    unfold forD
    simp only [e1, e2]
    exact forD_next I xs e s p fun y hy => hs y (List.mem_cons_of_mem _ hy)
/-- .. what holds goes on with the list -/
theorem forD_nextL {t : DG} {g : DS} (I : List PyData → Env → Store → Prop) : ∀ (xs : List PyData) (env : Env) (S : Store), I xs env S → (∀ x ys env S, I (x :: ys) env S → ∃ env1, t (.d x) env = some env1 ∧ (g env1 S).isNext (I ys)) → (forD t g xs env S).isNext (I [])
  | [], env, S, h, _ => h
  | x :: xs, env, S, h, hs => by
    obtain ⟨env1, e1, q⟩ := hs x xs env S h
    obtain ⟨e, s, e2, p⟩ := q.elim
    unfold forD
    simp only [e1, e2]
    exact forD_nextL I xs e s p hs
/-- a def's end -/
theorem endF_true {r : RS} {P : RE → Prop} (h : ∃ S', r = .ret (.d (.bool true)) S') : ∃ S', endF r = .ok (.d (.bool true)) S' := by
  obtain ⟨S', rfl⟩ := h
  exact ⟨S', rfl⟩
/-- slots that are of no more use -/
def Slots (n : Nat) (known : List (Nat × EV)) (e : Env) : Prop := e.length = n ∧ ∀ p, p ∈ known → e[p.1]? = some (some p.2)
theorem len_cons {α : Type} {n : Nat} {xs : List α} (h : xs.length = n + 1) : ∃ a ys, xs = a :: ys ∧ ys.length = n := by
  cases xs with
  | nil => cases h
  | cons a ys => exact ⟨a, ys, rfl, by simpa using h⟩
theorem len_nil {α : Type} {xs : List α} (h : xs.length = 0) : xs = [] := List.eq_nil_of_length_eq_zero h
/-- a for whose slots are told by what it makes and by what is of no use -/
theorem forD_fold {α β : Type} {t : DG} {g : DS} (mk : α → β → Env) (step : α → PyData → α) (S : Store) (P : α → List PyData → Prop)
    (h : ∀ a b x xs, P a (x :: xs) → ∃ env1 b', t (.d x) (mk a b) = some env1 ∧ g env1 S = .next (mk (step a x) b') S ∧ P (step a x) xs) : ∀ (xs : List PyData) (a : α) (b : β), P a xs → ∃ b', forD t g xs (mk a b) S = .next (mk (xs.foldl step a) b') S ∧ P (xs.foldl step a) []
  | [], a, b, p => ⟨b, rfl, p⟩
  | x :: xs, a, b, p => by
    obtain ⟨env1, b1, e1, e2, p1⟩ := h a b x xs p
    obtain ⟨b', e3, p3⟩ := forD_fold mk step S P h xs (step a x) b1 p1
    refine ⟨b', ?_, p3⟩
    unfold forD
    simp only [e1, e2]
    exact e3
theorem addG_listB {xs ys : List PyData} (h : xs.length + ys.length ≤ 10000000) : addG (.list xs) (.list ys) = some (.own (xs ++ ys)) := by
  unfold addG
  simp only
  rw [if_pos (by unfold LIM; omega)]
end DL

set_option Elab.async false
set_option linter.all false
set_option maxRecDepth 100000
set_option maxHeartbeats 4000000
/-! P1: what the recognizers of drawings reckon. -/
namespace P
open PySem PySem.Spec PyProof.Rows L2 DL U

abbrev dB (b : Bool) : EV := .d (.bool b)
def isName : PyData → Bool
  | .str s => ("a" : Str) == s || (("b" : Str) == s || ("c" : Str) == s)
  | _ => false
theorem name_eq (v : PyData) (S : Store) : F_is_name [.d v] S = .ok (dB (isName v)) S := by
  show endF (g_is_name [some (.d v)] S) = _
  unfold g_is_name
  cases v <;> simp [tyD, inG, flatD, isName, PyData.eqv]
def isThing : PyData → Bool
  | .int i => decide (0 ≤ i) && decide (i ≤ 99)
  | .str s => isName (.str s)
  | _ => false
theorem thing_eq (v : PyData) (S : Store) : F_is_thing [.d v] S = .ok (dB (isThing v)) S := by
  show endF (g_is_thing [some (.d v)] S) = _
  unfold g_is_thing
  cases v <;> simp [tyD, name_eq, isThing, isName]
  rename_i i
  by_cases h : 0 ≤ i <;> simp [h]
def isTup : PyData → Bool
  | .tuple _ => true
  | _ => false
theorem isTup_ty (v : PyData) : (tyD v == "tuple" || (tyD v == "bool" && "tuple" == "int")) = isTup v := by
  cases v <;> simp [tyD, isTup]
def isGroup : PyData → Bool
  | .tuple [x, y] => isName x && isTup y
  | _ => false
theorem group_eq (v : PyData) (S : Store) : F_is_group [.d v] S = .ok (dB (isGroup v)) S := by
  show endF (g_is_group [some (.d v)] S) = _
  unfold g_is_group
  cases v with
  | tuple xs =>
    match xs with
    | [] => simp [tyD, isGroup]
    | [x] => simp [tyD, isGroup]
    | [x, y] =>
      simp [tyD, isGroup, name_eq]
      cases h : isName x <;> simp [h]
      cases y <;> simp [tyD, isTup]
    | x :: y :: z :: r =>
      have h : ((r.length : Int) + 1 + 1 + 1 == 2) = false := by
        rw [beq_eq_false_iff_ne]; omega
      simp [tyD, isGroup, h]
  | _ => simp [tyD, isGroup]

/-! ### items of any depth -/
mutual
def wfI : PyData → Bool
  | .tuple [x, .tuple ys] => isName x && wfAll ys
  | x => isThing x
def wfAll : List PyData → Bool
  | [] => true
  | x :: xs => wfI x && wfAll xs
end
mutual
def idsI : PyData → List PyData
  | .tuple [x, .tuple ys] => x :: idsAll ys
  | x => [x]
def idsAll : List PyData → List PyData
  | [] => []
  | x :: xs => idsI x ++ idsAll xs
end
mutual
def thI : PyData → List PyData
  | .tuple [_, .tuple ys] => thAll ys
  | x => [x]
def thAll : List PyData → List PyData
  | [] => []
  | x :: xs => thI x ++ thAll xs
end
mutual
def grI : PyData → List PyData
  | .tuple [x, .tuple ys] => x :: grAll ys
  | _ => []
def grAll : List PyData → List PyData
  | [] => []
  | x :: xs => grI x ++ grAll xs
end
mutual
def dpI : PyData → Nat
  | .tuple [_, .tuple ys] => 1 + dpAll ys
  | _ => 0
def dpAll : List PyData → Nat
  | [] => 0
  | x :: xs => max (dpI x) (dpAll xs)
end
mutual
def cnI : PyData → Nat
  | .tuple xs => cnAll xs
  | .list xs => cnAll xs
  | _ => 0
def cnAll : List PyData → Nat
  | [] => 0
  | x :: xs => cnI x + 1 + cnAll xs
end
mutual
def idnI : PyData → List PyData
  | .tuple [x, .tuple ys] => if isName x = true then x :: idnAll ys else [.none]
  | x => if isThing x = true then [x] else [.none]
def idnAll : List PyData → List PyData
  | [] => []
  | x :: xs => idnI x ++ idnAll xs
end
/-- how an item is: a group, or no tuple of that form -/
theorem form (x : PyData) : (∃ n ys, x = .tuple [n, .tuple ys]) ∨ ((∀ n ys, x ≠ .tuple [n, .tuple ys]) ∧ wfI x = isThing x ∧ idsI x = [x] ∧ thI x = [x] ∧ grI x = [] ∧ dpI x = 0 ∧ idnI x = (if isThing x = true then [x] else [.none])) := by
  by_cases h : ∃ n ys, x = .tuple [n, .tuple ys]
  · exact .inl h
  · have h' : ∀ n ys, x ≠ .tuple [n, .tuple ys] := fun n ys e => h ⟨n, ys, e⟩
    refine .inr ⟨h', ?_, ?_, ?_, ?_, ?_, ?_⟩
    · unfold wfI; split
      · exact absurd rfl (h' _ _)
      · rfl
    · unfold idsI; split
      · exact absurd rfl (h' _ _)
      · rfl
    · unfold thI; split
      · exact absurd rfl (h' _ _)
      · rfl
    · unfold grI; split
      · exact absurd rfl (h' _ _)
      · rfl
    · unfold dpI; split
      · exact absurd rfl (h' _ _)
      · rfl
    · unfold idnI; split
      · exact absurd rfl (h' _ _)
      · rfl
@[simp] theorem wfI_g {n : PyData} {ys : List PyData} : wfI (.tuple [n, .tuple ys]) = (isName n && wfAll ys) := by rw [wfI]
@[simp] theorem idsI_g {n : PyData} {ys : List PyData} : idsI (.tuple [n, .tuple ys]) = n :: idsAll ys := by rw [idsI]
@[simp] theorem thI_g {n : PyData} {ys : List PyData} : thI (.tuple [n, .tuple ys]) = thAll ys := by rw [thI]
@[simp] theorem grI_g {n : PyData} {ys : List PyData} : grI (.tuple [n, .tuple ys]) = n :: grAll ys := by rw [grI]
@[simp] theorem dpI_g {n : PyData} {ys : List PyData} : dpI (.tuple [n, .tuple ys]) = 1 + dpAll ys := by rw [dpI]
@[simp] theorem idnI_g {n : PyData} {ys : List PyData} : idnI (.tuple [n, .tuple ys]) = if isName n = true then n :: idnAll ys else [.none] := by rw [idnI]
@[simp] theorem wfAll_nil : wfAll [] = true := by rw [wfAll]
@[simp] theorem wfAll_cons {x : PyData} {xs : List PyData} : wfAll (x :: xs) = (wfI x && wfAll xs) := by rw [wfAll]
@[simp] theorem idsAll_nil : idsAll [] = [] := by rw [idsAll]
@[simp] theorem idsAll_cons {x : PyData} {xs : List PyData} : idsAll (x :: xs) = idsI x ++ idsAll xs := by rw [idsAll]
@[simp] theorem thAll_nil : thAll [] = [] := by rw [thAll]
@[simp] theorem thAll_cons {x : PyData} {xs : List PyData} : thAll (x :: xs) = thI x ++ thAll xs := by rw [thAll]
@[simp] theorem grAll_nil : grAll [] = [] := by rw [grAll]
@[simp] theorem grAll_cons {x : PyData} {xs : List PyData} : grAll (x :: xs) = grI x ++ grAll xs := by rw [grAll]
@[simp] theorem dpAll_nil : dpAll [] = 0 := by rw [dpAll]
@[simp] theorem dpAll_cons {x : PyData} {xs : List PyData} : dpAll (x :: xs) = max (dpI x) (dpAll xs) := by rw [dpAll]
@[simp] theorem cnAll_nil : cnAll [] = 0 := by rw [cnAll]
@[simp] theorem cnAll_cons {x : PyData} {xs : List PyData} : cnAll (x :: xs) = cnI x + 1 + cnAll xs := by rw [cnAll]
@[simp] theorem cnI_tup {xs : List PyData} : cnI (.tuple xs) = cnAll xs := by rw [cnI]
@[simp] theorem cnI_lst {xs : List PyData} : cnI (.list xs) = cnAll xs := by rw [cnI]
@[simp] theorem idnAll_nil : idnAll [] = [] := by rw [idnAll]
@[simp] theorem idnAll_cons {x : PyData} {xs : List PyData} : idnAll (x :: xs) = idnI x ++ idnAll xs := by rw [idnAll]
theorem isThing_tup {xs : List PyData} : isThing (.tuple xs) = false := rfl
/-- a well-formed item: a group or a thing -/
theorem wf_form {x : PyData} (h : wfI x = true) : (∃ n ys, x = .tuple [n, .tuple ys] ∧ isName n = true ∧ wfAll ys = true) ∨ (isThing x = true ∧ isTup x = false ∧ idsI x = [x] ∧ thI x = [x] ∧ grI x = [] ∧ dpI x = 0 ∧ idnI x = [x]) := by
  rcases form x with ⟨n, ys, rfl⟩ | ⟨h', e1, e2, e3, e4, e5, e6⟩
  · rw [wfI_g, Bool.and_eq_true] at h
    exact .inl ⟨n, ys, rfl, h.1, h.2⟩
  · rw [e1] at h
    rw [if_pos h] at e6
    refine .inr ⟨h, ?_, e2, e3, e4, e5, e6⟩
    cases x <;> first | rfl | cases h

/-- how deep lists and tuples lie in a value, at most -/
theorem items_aux (S : Store) : ∀ (d : Nat) (k : Nat) (xs : List PyData) (F : DF), k ≤ d → (∀ ys (k' : Nat), k = k' + 1 → F [.d (.tuple ys), .d (.int (k' : Nat))] S = .ok (dB (wfAll ys && decide (dpAll ys ≤ k'))) S) → ∀ ys zs e, wfAll zs = true → dpAll zs ≤ k →
    ∃ e' : DL.Env, forD (tgN 2) (b_are_items_1 F) ys [some (.d (.tuple xs)), some (.d (.int (k : Nat))), e] S = (if wfAll ys && decide (dpAll ys ≤ k) then .next e' S else .ret (dB false) S) := by
  intro d k xs F hk hF ys zs e hz hd
  induction ys generalizing e with
  | nil => exact ⟨_, by simp [forD]; rfl⟩
  | cons y ys ih =>
    unfold forD
    simp only [tgN_ap]
    have hb : b_are_items_1 F ([some (.d (.tuple xs)), some (.d (.int (k : Nat))), e].set 2 (some (.d y))) S = if wfI y && decide (dpI y ≤ k) then .next [some (.d (.tuple xs)), some (.d (.int (k : Nat))), some (.d y)] S else .ret (dB false) S := by
      unfold b_are_items_1
      rcases form y with ⟨n, zs, rfl⟩ | ⟨h', e1, e2, e3, e4, e5, e6⟩
      · simp [thing_eq, group_eq, isThing, isGroup, isTup, tyD]
        cases hn : isName n with
        | false => simp
        | true =>
          cases k with
          | zero => simp; try (intro _; omega)
          | succ k' =>
            have h0 : ((k' : Int) + 1 == 0) = false := by rw [beq_eq_false_iff_ne]; omega
            have := hF zs k' rfl
            simp [h0, this]
            cases hw : wfAll zs <;> simp
            by_cases hq : dpAll zs ≤ k'
            · simp [hq, show 1 + dpAll zs ≤ k' + 1 by omega]
            · simp [hq, show ¬ (1 + dpAll zs ≤ k' + 1) by omega]
      · simp [thing_eq, group_eq, e1, e5]
        cases ht : isThing y with
        | true =>
          have : isTup y = false := by cases y <;> first | rfl | cases ht
          have h2 : tyD y ≠ "tuple" := by cases y <;> simp [tyD, isTup] at this ⊢
          have h3 : (tyD y == "tuple") = false := by rw [beq_eq_false_iff_ne]; exact h2
          simp [h3]
        | false =>
          have : isGroup y = false := by
            unfold isGroup
            split
            · rename_i n z
              cases z <;> simp [isTup]
              exact absurd rfl (h' _ _)
            · rfl
          simp [this]
    rw [hb]
    by_cases hy : (wfI y && decide (dpI y ≤ k)) = true
    · simp only [hy, if_true]
      obtain ⟨e', h⟩ := ih (some (.d y))
      refine ⟨e', h.trans ?_⟩
      simp only [Bool.and_eq_true, decide_eq_true_eq] at hy
      simp [hy.1, hy.2, Nat.max_le]
    · rw [if_neg hy]
      refine ⟨[], ?_⟩
      have : ¬ ((wfAll (y :: ys) && decide (dpAll (y :: ys) ≤ k)) = true) := by
        simp only [wfAll_cons, dpAll_cons, Bool.and_eq_true, decide_eq_true_eq, Nat.max_le] at hy ⊢
        exact fun z => hy ⟨z.1.1, z.2.1⟩
      simp only [if_neg this]
theorem items_eq (S : Store) : ∀ (d k : Nat) (ys : List PyData), k < d → F_are_items d [.d (.tuple ys), .d (.int (k : Nat))] S = .ok (dB (wfAll ys && decide (dpAll ys ≤ k))) S
  | 0, k, ys, h => by omega
  | d + 1, k, ys, h => by
    show endF (g_are_items (F_are_items d) [some (.d (.tuple ys)), some (.d (.int (k : Nat))), none] S) = _
    obtain ⟨e', h2⟩ := items_aux S d k ys (F_are_items d) (by omega) (fun zs k' e => items_eq S d k' zs (by omega)) ys [] none (by simp) (by simp)
    unfold g_are_items
    by_cases hw : wfAll ys = true <;> by_cases hd : dpAll ys ≤ k <;> simp [h2, hw, hd]
theorem items_no (S : Store) (d : Nat) (k : Nat) (v : PyData) (h : isTup v = false) : F_are_items (d + 1) [.d v, .d (.int (k : Nat))] S = .ok (dB false) S := by
  show endF (g_are_items (F_are_items d) [some (.d v), some (.d (.int (k : Nat))), none] S) = _
  unfold g_are_items
  cases v with
  | tuple xs => cases h
  | _ => simp

theorem things_aux (S : Store) (a : Option EV) (F : DF) : ∀ (ys : List PyData) (acc : List PyData) (e : Option EV), wfAll ys = true → (∀ n zs, .tuple [n, .tuple zs] ∈ ys → F [.d (.tuple zs)] S = .ok (.own (thAll zs)) S) → acc.length + (thAll ys).length ≤ 100000 →
    ∃ e', forD (tgN 2) (b_all_things_1 F) ys [a, some (.own acc), e] S = .next [a, some (.own (acc ++ thAll ys)), e'] S
  | [], acc, e, _, _, _ => ⟨e, by simp [forD]⟩
  | y :: ys, acc, e, w, hF, hl => by
    rw [wfAll_cons, Bool.and_eq_true] at w
    rw [thAll_cons, List.length_append] at hl
    unfold forD
    have hb : b_all_things_1 F ([a, some (.own acc), e].set 2 (some (.d y))) S = .next [a, some (.own (acc ++ thI y)), some (.d y)] S := by
      unfold b_all_things_1
      rcases wf_form w.1 with ⟨n, zs, rfl, _, _⟩ | ⟨h1, h2, _, h3, _⟩
      · have := hF n zs (by simp)
        rw [thI_g] at hl
        simp [this, addG_list (show acc.length + (thAll zs).length ≤ 100000 by omega)]
      · rw [h3] at hl ⊢
        have h4 : (tyD y == "tuple") = false := by cases y <;> first | rfl | cases h2
        have h5 : ¬ (tyD y = "tuple") := fun z => by rw [z] at h4; simp at h4
        simp [h4, h5, addG_list (show acc.length + [y].length ≤ 100000 by simp at hl ⊢; omega)]
    obtain ⟨e', h⟩ := things_aux S a F ys (acc ++ thI y) (some (.d y)) w.2 (fun n zs hm => hF n zs (List.mem_cons_of_mem _ hm)) (by rw [List.length_append]; omega)
    refine ⟨e', ?_⟩
    simp only [tgN_ap, hb]
    rw [h, thAll_cons, List.append_assoc]
theorem wf_mem {ys : List PyData} (h : wfAll ys = true) {y : PyData} (hy : y ∈ ys) : wfI y = true ∧ dpI y ≤ dpAll ys ∧ (thI y).length ≤ (thAll ys).length ∧ (grI y).length ≤ (grAll ys).length ∧ (idsI y).length ≤ (idsAll ys).length := by
  induction ys with
  | nil => cases hy
  | cons x ys ih =>
    rw [wfAll_cons, Bool.and_eq_true] at h
    simp only [dpAll_cons, thAll_cons, grAll_cons, idsAll_cons, List.length_append]
    rcases List.mem_cons.mp hy with e | e
    · subst e
      exact ⟨h.1, Nat.le_max_left _ _, by omega, by omega, by omega⟩
    · obtain ⟨a, b, c, d, f⟩ := ih h.2 e
      exact ⟨a, Nat.le_trans b (Nat.le_max_right _ _), by omega, by omega, by omega⟩
theorem things_eq (S : Store) : ∀ (d : Nat) (ys : List PyData), wfAll ys = true → dpAll ys < d → (thAll ys).length ≤ 100000 → F_all_things d [.d (.tuple ys)] S = .ok (.own (thAll ys)) S
  | 0, ys, _, h, _ => by omega
  | d + 1, ys, w, h, hl => by
    show endF (g_all_things (F_all_things d) [some (.d (.tuple ys)), none, none] S) = _
    obtain ⟨e', h2⟩ := things_aux S (some (.d (.tuple ys))) (F_all_things d) ys [] none w (fun n zs hm => by
      obtain ⟨h1, h2, h3, _⟩ := wf_mem w hm
      rw [wfI_g, Bool.and_eq_true] at h1
      rw [dpI_g] at h2
      rw [thI_g] at h3
      exact things_eq S d zs h1.2 (by omega) (by omega)) (by simpa using hl)
    unfold g_all_things
    simp [h2]
theorem groups_aux (S : Store) (a : Option EV) (F : DF) : ∀ (ys : List PyData) (acc : List PyData) (e : Option EV), wfAll ys = true → (∀ n zs, .tuple [n, .tuple zs] ∈ ys → F [.d (.tuple zs)] S = .ok (.d (.list (grAll zs))) S) → acc.length + (grAll ys).length ≤ 100000 →
    ∃ e', forD (tgN 2) (b_group_names_1 F) ys [a, some (.d (.list acc)), e] S = .next [a, some (.d (.list (acc ++ grAll ys))), e'] S
  | [], acc, e, _, _, _ => ⟨e, by simp [forD]⟩
  | y :: ys, acc, e, w, hF, hl => by
    rw [wfAll_cons, Bool.and_eq_true] at w
    rw [grAll_cons, List.length_append] at hl
    unfold forD
    have hb : b_group_names_1 F ([a, some (.d (.list acc)), e].set 2 (some (.d y))) S = .next [a, some (.d (.list (acc ++ grI y))), some (.d y)] S := by
      unfold b_group_names_1
      rcases wf_form w.1 with ⟨n, zs, rfl, _, _⟩ | ⟨h1, h2, _, _, h3, _⟩
      · have := hF n zs (by simp)
        rw [grI_g] at hl
        simp at hl
        simp [this, addG_list (show acc.length + [n].length ≤ 100000 by simp; omega), addG_list (show (acc ++ [n]).length + (grAll zs).length ≤ 100000 by simp; omega)]
      · rw [h3] at hl ⊢
        have h4 : (tyD y == "tuple") = false := by cases y <;> first | rfl | cases h2
        have h5 : ¬ (tyD y = "tuple") := fun z => by rw [z] at h4; simp at h4
        simp [h4, h5]
    obtain ⟨e', h⟩ := groups_aux S a F ys (acc ++ grI y) (some (.d y)) w.2 (fun n zs hm => hF n zs (List.mem_cons_of_mem _ hm)) (by rw [List.length_append]; omega)
    refine ⟨e', ?_⟩
    simp only [tgN_ap, hb]
    rw [h, grAll_cons, List.append_assoc]
theorem groups_eq (S : Store) : ∀ (d : Nat) (ys : List PyData), wfAll ys = true → dpAll ys < d → (grAll ys).length ≤ 100000 → F_group_names d [.d (.tuple ys)] S = .ok (.d (.list (grAll ys))) S
  | 0, ys, _, h, _ => by omega
  | d + 1, ys, w, h, hl => by
    show endF (g_group_names (F_group_names d) [some (.d (.tuple ys)), none, none] S) = _
    obtain ⟨e', h2⟩ := groups_aux S (some (.d (.tuple ys))) (F_group_names d) ys [] none w (fun n zs hm => by
      obtain ⟨h1, h2, _, h3, _⟩ := wf_mem w hm
      rw [wfI_g, Bool.and_eq_true] at h1
      rw [dpI_g] at h2
      rw [grI_g, List.length_cons] at h3
      exact groups_eq S d zs h1.2 (by omega) (by omega)) (by simpa using hl)
    unfold g_group_names
    simp [h2]
/-! ### sets of keys -/
theorem hasK_mem {κ : Type} [DecidableEq κ] (acc : List κ) (k : κ) : hasK acc k = true ↔ k ∈ acc := by
  unfold hasK
  rw [List.any_eq_true]
  exact ⟨fun ⟨x, h1, h2⟩ => by rw [← of_decide_eq_true h2]; exact h1, fun h => ⟨k, h, decide_eq_true rfl⟩⟩
theorem dd_go {κ : Type} [DecidableEq κ] : ∀ (ks acc : List κ), (ks.foldl dd1 acc).length ≤ acc.length + ks.length ∧ ((ks.foldl dd1 acc).length = acc.length + ks.length ↔ ks.Nodup ∧ ∀ k, k ∈ ks → k ∉ acc)
  | [], acc => ⟨by simp, by simp⟩
  | k :: ks, acc => by
    rw [List.foldl_cons, List.length_cons]
    by_cases h : hasK acc k = true
    · rw [show dd1 acc k = acc from if_pos h]
      obtain ⟨h1, h2⟩ := dd_go ks acc
      have hm := (hasK_mem acc k).mp h
      refine ⟨by omega, ⟨fun e => by omega, fun ⟨_, e⟩ => absurd hm (e k List.mem_cons_self)⟩⟩
    · rw [show dd1 acc k = acc ++ [k] from if_neg h]
      obtain ⟨h1, h2⟩ := dd_go ks (acc ++ [k])
      have hm : k ∉ acc := fun z => h ((hasK_mem acc k).mpr z)
      rw [List.length_append, List.length_singleton] at h1 h2
      refine ⟨by omega, ⟨fun e => ?_, fun ⟨nd, e⟩ => ?_⟩⟩
      · obtain ⟨q1, q2⟩ := h2.mp (by omega)
        refine ⟨List.nodup_cons.mpr ⟨fun z => q2 k z (by simp), q1⟩, fun x hx => ?_⟩
        rcases List.mem_cons.mp hx with z | z
        · rw [z]; exact hm
        · exact fun y => q2 x z (by simp [y])
      · obtain ⟨q1, q2⟩ := List.nodup_cons.mp nd
        have := h2.mpr ⟨q2, fun x hx hx2 => by
          rcases List.mem_append.mp hx2 with z | z
          · exact e x (List.mem_cons_of_mem _ hx) z
          · simp at z
            rw [z] at hx
            exact q1 hx⟩
        omega
theorem dd_len {κ : Type} [DecidableEq κ] (ks : List κ) : (dd ks).length ≤ ks.length ∧ ((dd ks).length = ks.length ↔ ks.Nodup) := by
  have := dd_go ks []
  simp at this
  exact this
/-- a key of a set -/
def isKey : PyData → Bool
  | .int _ => true
  | .str _ => true
  | _ => false
def kD : Key → PyData
  | .inl i => .int i
  | .inr s => .str s
theorem keys_of : ∀ (xs : List PyData), xs.all isKey = true → ∃ ks, keysD xs = some ks ∧ ks.length = xs.length ∧ (ks.Nodup ↔ xs.Nodup) ∧ ∀ k, k ∈ ks ↔ kD k ∈ xs
  | [], _ => ⟨[], rfl, rfl, by simp, by simp⟩
  | x :: xs, h => by
    simp only [List.all_cons, Bool.and_eq_true] at h
    obtain ⟨ks, e1, e2, e3, e4⟩ := keys_of xs h.2
    cases x with
    | int i =>
      refine ⟨.inl i :: ks, by simp [keysD, keyD, e1], by simp [e2], ?_, fun k => ?_⟩
      · rw [List.nodup_cons, List.nodup_cons, e3, e4]
        rfl
      · rw [List.mem_cons, List.mem_cons, e4]
        cases k <;> simp [kD]
    | str i =>
      refine ⟨.inr i :: ks, by simp [keysD, keyD, e1], by simp [e2], ?_, fun k => ?_⟩
      · rw [List.nodup_cons, List.nodup_cons, e3, e4]
        rfl
      · rw [List.mem_cons, List.mem_cons, e4]
        cases k <;> simp [kD]
    | _ => cases h.1
theorem set_len {xs : List PyData} (h : xs.all isKey = true) (hl : xs.length ≤ 4000) : ∃ n : Nat, lsG (.list xs) = some (.d (.int n)) ∧ lsG (.tuple xs) = some (.d (.int n)) ∧ n ≤ xs.length ∧ (n = xs.length ↔ xs.Nodup) := by
  obtain ⟨ks, e1, e2, e3, _⟩ := keys_of xs h
  obtain ⟨d1, d2⟩ := dd_len ks
  refine ⟨(dd ks).length, ?_, ?_, by omega, by rw [← e2, ← e3]; exact d2⟩
  · simp [lsG, e1, e2, hl]
  · simp [lsG, e1, e2, hl]
end P

set_option Elab.async false
set_option linter.all false
set_option maxRecDepth 100000
set_option maxHeartbeats 4000000
/-! P2: good drawings. -/
namespace P
open PySem PySem.Spec PyProof.Rows L2 DL U

theorem name_cases {x : PyData} (h : isName x = true) : x = .str "a" ∨ x = .str "b" ∨ x = .str "c" := by
  cases x with
  | str s =>
    simp only [isName, Bool.or_eq_true, beq_iff_eq] at h
    rcases h with h | h | h
    · exact .inl (by rw [← h])
    · exact .inr (.inl (by rw [← h]))
    · exact .inr (.inr (by rw [← h]))
  | _ => cases h
theorem thing_cases {x : PyData} (h : isThing x = true) : isName x = true ∨ ∃ i : Int, x = .int i ∧ 0 ≤ i ∧ i ≤ 99 := by
  cases x with
  | int i =>
    simp only [isThing, Bool.and_eq_true, decide_eq_true_eq] at h
    exact .inr ⟨i, rfl, h⟩
  | str s => exact .inl h
  | _ => cases h
theorem name_thing {x : PyData} (h : isName x = true) : isThing x = true := by
  cases x with
  | str s => exact h
  | _ => cases h
theorem thing_key {x : PyData} (h : isThing x = true) : isKey x = true := by
  cases x with
  | int i => rfl
  | str s => rfl
  | _ => cases h
/-- what stands in a law's list of ids -/
def isId : PyData → Bool
  | .none => true
  | x => isThing x
theorem name_lay {x : PyData} (h : isName x = true) : x.canLay0 = true ∧ x.depth ≤ 1 := by
  rcases name_cases h with rfl | rfl | rfl <;> exact ⟨by decide +kernel, by simp [PyData.depth]⟩
theorem id_lay {x : PyData} (h : isId x = true) : x.canLay0 = true ∧ x.depth ≤ 1 := by
  by_cases hn : isName x = true
  · exact name_lay hn
  · cases x with
    | none => exact ⟨by simp [PyData.canLay0], by simp [PyData.depth]⟩
    | int i => exact ⟨by simp [PyData.canLay0], by simp [PyData.depth]⟩
    | str s => exact absurd h hn
    | _ => cases h
theorem thing_id {x : PyData} (h : isThing x = true) : isId x = true := by
  cases x with
  | int i => exact h
  | str s => exact h
  | _ => cases h
theorem ids_lay : ∀ {xs : List PyData}, xs.all isId = true → PyData.canLayAll0 xs = true ∧ PyData.depthAll xs ≤ 1
  | [], _ => ⟨by simp [PyData.canLayAll0], by simp [PyData.depthAll]⟩
  | x :: xs, h => by
    simp only [List.all_cons, Bool.and_eq_true] at h
    obtain ⟨a, b⟩ := id_lay h.1
    obtain ⟨c, d⟩ := ids_lay h.2
    exact ⟨by simp [PyData.canLayAll0, a, c], by simp only [PyData.depthAll]; omega⟩
theorem ids_shaped {xs : List PyData} (h : xs.all isId = true) : SeqAt.shaped (.list xs) = true ∧ SeqAt.shaped (.tuple xs) = true := by
  obtain ⟨c, d⟩ := ids_lay h
  exact ⟨canLay_shaped (by simp [PyData.canLay0, c]) (by simp only [PyData.depth]; omega), canLay_shaped (by simp [PyData.canLay0, c]) (by simp only [PyData.depth]; omega)⟩
theorem id_shaped {x : PyData} (h : isId x = true) : SeqAt.shaped x = true := by
  obtain ⟨c, d⟩ := id_lay h
  exact canLay_shaped c (by omega)
theorem key_eqv {x y : PyData} (h : isKey x = true) (h2 : isKey y = true) : PyData.eqv x y = true ↔ x = y := by
  cases x with
  | int i => cases y with
    | int j => simp [PyData.eqv]
    | str j => simp [PyData.eqv]
    | _ => cases h2
  | str i => cases y with
    | int j => simp [PyData.eqv]
    | str j => simp [PyData.eqv]
    | _ => cases h2
  | _ => cases h
theorem any_eqv {x : PyData} (h : isKey x = true) {ys : List PyData} (hy : ys.all isKey = true) : (ys.any fun z => PyData.eqv z x) = true ↔ x ∈ ys := by
  rw [List.any_eq_true]
  constructor
  · rintro ⟨z, hz, e⟩
    rw [← (key_eqv (List.all_eq_true.mp hy z hz) h).mp e]
    exact hz
  · exact fun m => ⟨x, m, (key_eqv h h).mpr rfl⟩
theorem wf_parts : ∀ (n : Nat) {ys : List PyData}, cnAll ys ≤ n → wfAll ys = true → (thAll ys).all isThing = true ∧ (grAll ys).all isName = true ∧ (idsAll ys).all isThing = true ∧ (idsAll ys).Perm (grAll ys ++ thAll ys) ∧ dpAll ys ≤ (grAll ys).length ∧ (idsAll ys).length ≤ cnAll ys ∧ idnAll ys = idsAll ys
  | _, [], _, _ => by simp
  | 0, y :: ys, h, _ => by rw [cnAll_cons] at h; omega
  | n + 1, y :: ys, h, w => by
    rw [cnAll_cons] at h
    rw [wfAll_cons, Bool.and_eq_true] at w
    obtain ⟨a1, a2, a3, a4, a5, a6, a7⟩ := wf_parts n (ys := ys) (by omega) w.2
    have one : (thI y).all isThing = true ∧ (grI y).all isName = true ∧ (idsI y).all isThing = true ∧ (idsI y).Perm (grI y ++ thI y) ∧ dpI y ≤ (grI y).length ∧ (idsI y).length ≤ cnI y + 1 ∧ idnI y = idsI y := by
      rcases wf_form w.1 with ⟨m, zs, rfl, hm, hz⟩ | ⟨h1, h2, h3, h4, h5, h6, h7⟩
      · obtain ⟨b1, b2, b3, b4, b5, b6, b7⟩ := wf_parts n (ys := zs) (by simp at h; omega) hz
        refine ⟨by simpa using b1, ?_, ?_, ?_, ?_, ?_, ?_⟩
        · simp only [grI_g, List.all_cons, hm, b2, Bool.and_self]
        · simp only [idsI_g, List.all_cons, name_thing hm, b3, Bool.and_self]
        · simp only [idsI_g, grI_g, thI_g, List.cons_append]
          exact b4.cons m
        · simp only [dpI_g, grI_g, List.length_cons]; omega
        · simp only [idsI_g, List.length_cons, cnI_tup, cnAll_cons, cnAll_nil]; omega
        · simp only [idnI_g, idsI_g, if_pos hm, b7]
      · rw [h3, h4, h5, h6, h7]
        refine ⟨by simp [h1], by simp, by simp [h1], by simp, by simp, by simp, rfl⟩
    obtain ⟨b1, b2, b3, b4, b5, b6, b7⟩ := one
    simp only [thAll_cons, grAll_cons, idsAll_cons, idnAll_cons, dpAll_cons, cnAll_cons, List.all_append, List.length_append, Bool.and_eq_true]
    refine ⟨⟨b1, a1⟩, ⟨b2, a2⟩, ⟨b3, a3⟩, ?_, by omega, by omega, by rw [b7, a7]⟩
    have p1 := b4.append a4
    refine p1.trans ?_
    rw [List.append_assoc, List.append_assoc]
    refine List.Perm.append_left _ ?_
    rw [← List.append_assoc, ← List.append_assoc]
    exact List.Perm.append_right _ List.perm_append_comm
theorem idn_none : ∀ (n : Nat) {ys : List PyData}, cnAll ys ≤ n → (idnAll ys).all isId = true ∧ (PyData.none ∉ idnAll ys ↔ wfAll ys = true) ∧ (idnAll ys).length ≤ cnAll ys
  | _, [], _ => by simp
  | 0, y :: ys, h => by rw [cnAll_cons] at h; omega
  | n + 1, y :: ys, h => by
    rw [cnAll_cons] at h
    obtain ⟨a1, a2, a3⟩ := idn_none n (ys := ys) (by omega)
    have one : (idnI y).all isId = true ∧ (PyData.none ∉ idnI y ↔ wfI y = true) ∧ (idnI y).length ≤ cnI y + 1 := by
      rcases form y with ⟨m, zs, rfl⟩ | ⟨h1, h2, h3, h4, h5, h6, h7⟩
      · obtain ⟨b1, b2, b3⟩ := idn_none n (ys := zs) (by simp at h; omega)
        rw [idnI_g, wfI_g]
        by_cases hm : isName m = true
        · rw [if_pos hm, hm, Bool.true_and]
          refine ⟨by simp only [List.all_cons, thing_id (name_thing hm), b1, Bool.and_self], ?_, by simp; omega⟩
          rw [List.mem_cons, not_or, b2]
          refine ⟨fun z => z.2, fun z => ⟨fun e => ?_, z⟩⟩
          rw [← e] at hm
          cases hm
        · rw [if_neg hm]
          simp [hm, isId]
      · rw [h7, h2]
        by_cases ht : isThing y = true
        · rw [if_pos ht]
          refine ⟨by simp [thing_id ht], ?_, by simp⟩
          simp only [List.mem_singleton, ht, iff_true]
          intro e
          rw [← e] at ht
          cases ht
        · rw [if_neg ht]
          simp [ht, isId]
    obtain ⟨b1, b2, b3⟩ := one
    simp only [idnAll_cons, wfAll_cons, cnAll_cons, List.all_append, List.length_append, Bool.and_eq_true, List.mem_append, not_or]
    exact ⟨⟨b1, a1⟩, by rw [b2, a2], by omega⟩
/-- a list of different things of a list is no longer than it -/
theorem nodup_len {α : Type} : ∀ {l m : List α}, l.Nodup → (∀ x, x ∈ l → x ∈ m) → l.length ≤ m.length
  | [], _, _, _ => Nat.zero_le _
  | a :: l, m, nd, h => by
    obtain ⟨n1, n2⟩ := List.nodup_cons.mp nd
    obtain ⟨s, t, e⟩ := List.append_of_mem (h a List.mem_cons_self)
    have := nodup_len (m := s ++ t) n2 fun x hx => by
      have := h x (List.mem_cons_of_mem _ hx)
      rw [e] at this
      rcases List.mem_append.mp this with z | z
      · exact List.mem_append_left _ z
      · rcases List.mem_cons.mp z with z | z
        · subst z; exact absurd hx n1
        · exact List.mem_append_right _ z
    rw [e, List.length_append, List.length_cons]
    rw [List.length_append] at this
    rw [List.length_cons]
    omega
theorem names_few {l : List PyData} (h : l.all isName = true) (nd : l.Nodup) : l.length ≤ 3 :=
  nodup_len (m := [.str "a", .str "b", .str "c"]) nd fun x hx => by
    rcases name_cases (List.all_eq_true.mp h x hx) with e | e | e <;> simp [e]
/-- a right drawing -/
def Good (v : PyData) : Prop := ∃ ys, v = .tuple ys ∧ wfAll ys = true ∧ (idsAll ys).Nodup ∧ (thAll ys).length ≤ 40
open Classical in
noncomputable def goodD (v : PyData) : Bool := decide (Good v)
theorem key_names {l : List PyData} (h : l.all isName = true) : l.all isKey = true := by
  rw [List.all_eq_true] at h ⊢
  exact fun x hx => thing_key (name_thing (h x hx))
theorem key_things {l : List PyData} (h : l.all isThing = true) : l.all isKey = true := by
  rw [List.all_eq_true] at h ⊢
  exact fun x hx => thing_key (h x hx)
theorem id_things {l : List PyData} (h : l.all isThing = true) : l.all isId = true := by
  rw [List.all_eq_true] at h ⊢
  exact fun x hx => thing_id (h x hx)
theorem id_names {l : List PyData} (h : l.all isName = true) : l.all isId = true := by
  rw [List.all_eq_true] at h ⊢
  exact fun x hx => thing_id (name_thing (h x hx))
theorem allBools_map {α : Type} (f : α → Bool) : ∀ l : List α, allBools (l.map fun x => PyData.bool (f x)) = some (l.map f)
  | [] => rfl
  | x :: l => by
    show (allBools (l.map fun x => PyData.bool (f x))).map (f x :: ·) = _
    rw [allBools_map f l]
    rfl
theorem allG_map {α : Type} (f : α → Bool) (l : List α) : allG (.list (l.map fun x => PyData.bool (f x))) = some (dB (l.all f)) := by
  unfold allG
  simp [allBools_map]
theorem anyG_map {α : Type} (f : α → Bool) (l : List α) : anyG (.list (l.map fun x => PyData.bool (f x))) = some (dB (l.any f)) := by
  unfold anyG
  simp [allBools_map]
open Classical in
theorem goodD_eq {v : PyData} {b : Bool} (h : Good v ↔ b = true) : goodD v = b := by
  unfold goodD
  cases b with
  | true => exact decide_eq_true (h.mpr rfl)
  | false => exact decide_eq_false fun z => by cases h.mp z
theorem right_eq (v : PyData) (S : Store) (hc : cnI v ≤ 4000) : F_is_right_drawing [.d v] S = .ok (dB (goodD v)) S := by
  show endF (g_is_right_drawing [some (.d v), none, none, none] S) = _
  by_cases ht : isTup v = true
  · cases v with
    | tuple ys =>
      have h3 : F_are_items 40 [.d (.tuple ys), .d (.int 3)] S = _ := items_eq S 40 3 ys (by omega)
      rw [cnI_tup] at hc
      by_cases w : wfAll ys = true
      · obtain ⟨a1, a2, a3, a4, a5, a6, a7⟩ := wf_parts _ (Nat.le_refl (cnAll ys)) w
        have l1 := a4.length_eq
        rw [List.length_append] at l1
        have nd := a4.nodup_iff
        rw [List.nodup_append] at nd
        by_cases hd : dpAll ys ≤ 3
        · have e1 := things_eq S 40 ys w (by omega) (by omega)
          have e2 := groups_eq S 40 ys w (by omega) (by omega)
          obtain ⟨n1, s1, _, s2, s3⟩ := set_len (key_things a1) (by omega)
          obtain ⟨n2, t1, _, t2, t3⟩ := set_len (key_names a2) (by omega)
          have lc : lcD (tgN 3) none e_is_right_drawing_1 [some (.d (.tuple ys)), some (.d (.list (thAll ys))), some (.d (.list (grAll ys))), none] (grAll ys) [] S = .ok (.own ((grAll ys).map fun x => PyData.bool (!((thAll ys).any fun z => PyData.eqv z x)))) S := by
            have := lcD_pure (t := tgN 3) (test := none) (elt := e_is_right_drawing_1) (env := [some (.d (.tuple ys)), some (.d (.list (thAll ys))), some (.d (.list (grAll ys))), none]) (S := S) (p := fun _ => true) (f := fun x => PyData.bool (!((thAll ys).any fun z => PyData.eqv z x))) (grAll ys) [] (fun d hd => ⟨_, rfl, rfl, fun _ => by
              unfold e_is_right_drawing_1
              simp [inG_list (id_shaped (thing_id (name_thing (List.all_eq_true.mp a2 d hd)))) (ids_shaped (id_things a1)).1]⟩) (by simp; omega)
            rw [this, List.filter_eq_self.mpr (fun _ _ => rfl)]
            rfl
          unfold g_is_right_drawing
          simp [h3, w, hd, e1, e2, s1, t1, lc, allG_map]
          have key : Good (.tuple ys) ↔ (thAll ys).length ≤ 40 ∧ n1 = (thAll ys).length ∧ n2 = (grAll ys).length ∧ ((grAll ys).all fun x => !((thAll ys).any fun z => PyData.eqv z x)) = true := by
            rw [s3, t3, List.all_eq_true]
            constructor
            · rintro ⟨zs, e, _, g1, g2⟩
              cases e
              obtain ⟨q1, q2, q3⟩ := nd.mp g1
              refine ⟨g2, q2, q1, fun x hx => ?_⟩
              rw [Bool.not_eq_true', ← Bool.not_eq_true, any_eqv (thing_key (name_thing (List.all_eq_true.mp a2 x hx))) (key_things a1)]
              exact fun hm => q3 x hx x hm rfl
            · rintro ⟨g2, q2, q1, q3⟩
              refine ⟨ys, rfl, w, nd.mpr ⟨q1, q2, fun x hx y hy e => ?_⟩, g2⟩
              subst e
              have := q3 x hx
              rw [Bool.not_eq_true', ← Bool.not_eq_true, any_eqv (thing_key (name_thing (List.all_eq_true.mp a2 x hx))) (key_things a1)] at this
              exact this hy
          by_cases c1 : (thAll ys).length ≤ 40
          · by_cases c2 : n1 = (thAll ys).length
            · by_cases c3 : n2 = (grAll ys).length
              · rw [goodD_eq (b := (grAll ys).all fun x => !((thAll ys).any fun z => PyData.eqv z x)) (by rw [key]; exact ⟨fun z => z.2.2.2, fun z => ⟨c1, c2, c3, z⟩⟩)]
                simp [c1, c2, c3, show ¬ (40 : Int) < (thAll ys).length by omega]
                simp [lc, allG_map]
              · rw [goodD_eq (b := false) (by rw [key]; exact ⟨fun z => absurd z.2.2.1 c3, fun z => by cases z⟩)]
                simp [show ¬ (40 : Int) < (thAll ys).length by omega, c2, show n2 < (grAll ys).length by omega]
            · rw [goodD_eq (b := false) (by rw [key]; exact ⟨fun z => absurd z.2.1 c2, fun z => by cases z⟩)]
              simp [show ¬ (40 : Int) < (thAll ys).length by omega, show n1 < (thAll ys).length by omega]
          · rw [goodD_eq (b := false) (by rw [key]; exact ⟨fun z => absurd z.1 c1, fun z => by cases z⟩)]
            simp [show (40 : Int) < (thAll ys).length by omega]
        · have : goodD (.tuple ys) = false := goodD_eq (b := false) ⟨fun ⟨zs, e, _, g1, _⟩ => by
            cases e
            have := names_few a2 (nd.mp g1).1
            omega, fun z => by cases z⟩
          unfold g_is_right_drawing
          simp [h3, hd, this]
      · have : goodD (.tuple ys) = false := goodD_eq (b := false) ⟨fun ⟨zs, e, g1, _⟩ => by
          cases e
          exact absurd g1 w, fun z => by cases z⟩
        unfold g_is_right_drawing
        simp [h3, w, this]
    | _ => cases ht
  · have ht' : isTup v = false := by simpa using ht
    have h3 : F_are_items 40 [.d v, .d (.int 3)] S = _ := items_no S 39 3 v ht'
    have : goodD v = false := goodD_eq (b := false) ⟨fun ⟨zs, e, _⟩ => (by rw [e] at ht'; cases ht'), fun z => by cases z⟩
    unfold g_is_right_drawing
    simp [h3, this]
end P

set_option Elab.async false
set_option linter.all false
set_option maxRecDepth 100000
set_option maxHeartbeats 4000000
/-! P3: good commands, scripts; the law's own recognizers. -/
namespace P
open PySem PySem.Spec PyProof.Rows L2 DL U

theorem cut_from {xs : List PyData} {k : Nat} (h : k ≤ xs.length) : DL.cutD xs (some (k : Int)) none = xs.drop k := by
  unfold DL.cutD
  rw [HT.sIx_nat, HT.sIx_none, Nat.min_eq_left h, List.take_of_length_le (by simp)]
theorem cut_to {xs : List PyData} {k : Nat} (h : k ≤ xs.length) : DL.cutD xs none (some (k : Int)) = xs.take k := by
  unfold DL.cutD
  rw [HT.sIx_nat, HT.sIx_none, Nat.min_eq_left h]
  simp
theorem lcD_map {t : DG} {elt : DE} {env : DL.Env} {S : Store} {f : PyData → PyData} (xs : List PyData) (h : ∀ d, d ∈ xs → ∃ env1, t (.d d) env = some env1 ∧ ∃ v, elt env1 S = .ok v S ∧ v.fixed = some (.d (f d))) (hl : xs.length ≤ 100000) : lcD t none elt env xs [] S = .ok (.own (xs.map f)) S := by
  have := lcD_pure (t := t) (test := none) (elt := elt) (env := env) (S := S) (p := fun _ => true) (f := f) xs [] (fun d hd => by
    obtain ⟨e, h1, h2⟩ := h d hd
    exact ⟨e, h1, rfl, fun _ => h2⟩) (by simpa using hl)
  rw [this, List.filter_eq_self.mpr (fun _ _ => rfl)]
  rfl
theorem lcD_filter {t : DG} {test elt : DE} {env : DL.Env} {S : Store} {p : PyData → Bool} (xs : List PyData) (h : ∀ d, d ∈ xs → ∃ env1, t (.d d) env = some env1 ∧ test env1 S = .ok (dB (p d)) S ∧ ∃ v, elt env1 S = .ok v S ∧ v.fixed = some (.d d)) (hl : xs.length ≤ 100000) : lcD t (some test) elt env xs [] S = .ok (.own (xs.filter p)) S := by
  have := lcD_pure (t := t) (test := some test) (elt := elt) (env := env) (S := S) (p := p) (f := id) xs [] (fun d hd => by
    obtain ⟨e, h1, h2, h3⟩ := h d hd
    exact ⟨e, h1, h2, fun _ => h3⟩) (by simpa using hl)
  rw [this]
  simp
theorem eqv_nilT {xs : List PyData} : PyData.eqv (.tuple xs) (.tuple []) = xs.isEmpty := by cases xs <;> simp [PyData.eqv, PyData.eqvAll]
theorem eqv_nilL {xs : List PyData} : PyData.eqv (.list xs) (.list []) = xs.isEmpty := by cases xs <;> simp [PyData.eqv, PyData.eqvAll]
theorem shaped_nilT : SeqAt.shaped (.tuple []) = true := by decide +kernel
theorem shaped_nilL : SeqAt.shaped (.list []) = true := by decide +kernel
def words1 : List PyData := [.str "front", .str "back", .str "up", .str "down", .str "ungroup"]
def words2 : List PyData := [.str "above", .str "below"]
/-- how many names go with a word -/
def kind (s : Str) : Nat := if (words1.any fun z => PyData.eqv z (.str s)) = true then 1 else if (words2.any fun z => PyData.eqv z (.str s)) = true then 2 else if PyData.eqv (.str "group") (.str s) = true then 3 else 0
open Classical in
noncomputable def cmdD : PyData → Bool
  | .tuple (.str s :: r) => decide (r.all isName = true ∧ r.Nodup ∧ kind s = r.length ∧ r.length ≠ 0)
  | _ => false
open Classical in
theorem cm_eq (v : PyData) (S : Store) (hs : SeqAt.shaped v = true) (hc : cnI v ≤ 4000) (hl : ∀ s r, v = .tuple (.str s :: r) → r.length ≤ 4000) : F_is_right_command [.d v] S = .ok (dB (cmdD v)) S := by
  show endF (g_is_right_command [some (.d v), none, none] S) = _
  cases v with
  | tuple ys =>
    cases ys with
    | nil =>
      unfold g_is_right_command
      simp [eqG_sh hs shaped_nilT, eqv_nilT, cmdD]
    | cons x r =>
      cases x with
      | str s =>
        have h4 := hl s r rfl
        have c1 : DL.cutD (.str s :: r) (some 1) none = r := cut_from (k := 1) (by simp)
        have lc : lcD (tgN 2) none e_is_right_command_1 [some (.d (.tuple (.str s :: r))), some (.d (.tuple r)), none] r [] S = .ok (.own (r.map fun x => PyData.bool (isName x))) S :=
          lcD_map r (fun d hd => ⟨_, rfl, by unfold e_is_right_command_1; simp [name_eq]⟩) (by omega)
        have w1 : inG false (.str s) (.tuple words1) = _ := inG_tup (by rfl) (by rfl)
        have w2 : inG false (.str s) (.tuple words2) = _ := inG_tup (by rfl) (by rfl)
        rw [if_neg Bool.false_ne_true] at w1 w2
        have w3 : eqG (.str s) (.str "group") = some (dB (PyData.eqv (.str "group") (.str s))) := by
          rw [eqG_sh]
          · simp only [PyData.eqv]
            rw [BEq.comm]
          · have := hs
            unfold SeqAt.shaped at this ⊢
            simp only [Bool.and_eq_true, PyData.canLay0, PyData.canLayAll0] at this ⊢
            exact ⟨this.1.1, by simp [PyData.depth]⟩
          · decide +kernel
        have hk : ∀ b, (b = true ↔ (r.all isName = true ∧ r.Nodup ∧ kind s = r.length ∧ r.length ≠ 0)) → cmdD (.tuple (.str s :: r)) = b := fun b h => by
          unfold cmdD
          cases b with
          | true => exact decide_eq_true (h.mp rfl)
          | false => exact decide_eq_false fun z => by cases h.mpr z
        cases ha : r.all isName with
        | false =>
          unfold g_is_right_command
          rw [hk false (by simp [ha])]
          simp [eqG_sh hs shaped_nilT, eqv_nilT, c1, lc, allG_map, ha]
        | true =>
          obtain ⟨n1, _, s1, s2, s3⟩ := set_len (key_names ha) h4
          by_cases hn : n1 = r.length
          · have hnd := s3.mp hn
            generalize q1 : (words1.any fun z => PyData.eqv z (.str s)) = b1 at w1
            generalize q2 : (words2.any fun z => PyData.eqv z (.str s)) = b2 at w2
            generalize q3 : PyData.eqv (.str "group") (.str s) = b3 at w3
            unfold words1 at w1
            unfold words2 at w2
            have hkd : kind s = if b1 = true then 1 else if b2 = true then 2 else if b3 = true then 3 else 0 := by unfold kind; rw [q1, q2, q3]
            unfold g_is_right_command
            cases b1 with
            | true =>
              rw [hk (r.length == 1) (by rw [beq_iff_eq, hkd]; exact ⟨fun e => ⟨ha, hnd, by simp [e], by omega⟩, fun z => z.2.2.1.symm.trans (by simp)⟩)]
              simp [eqG_sh hs shaped_nilT, eqv_nilT, c1, lc, allG_map, ha, s1, hn, w1]
              exact Bool.eq_iff_iff.mpr (by simp; omega)
            | false =>
              cases b2 with
              | true =>
                rw [hk (r.length == 2) (by rw [beq_iff_eq, hkd]; exact ⟨fun e => ⟨ha, hnd, by simp [e], by omega⟩, fun z => z.2.2.1.symm.trans (by simp)⟩)]
                simp [eqG_sh hs shaped_nilT, eqv_nilT, c1, lc, allG_map, ha, s1, hn, w1, w2]
                exact Bool.eq_iff_iff.mpr (by simp; omega)
              | false =>
                cases b3 with
                | true =>
                  rw [hk (r.length == 3) (by rw [beq_iff_eq, hkd]; exact ⟨fun e => ⟨ha, hnd, by simp [e], by omega⟩, fun z => z.2.2.1.symm.trans (by simp)⟩)]
                  simp [eqG_sh hs shaped_nilT, eqv_nilT, c1, lc, allG_map, ha, s1, hn, w1, w2, w3]
                  exact Bool.eq_iff_iff.mpr (by simp; omega)
                | false =>
                  rw [hk false (by rw [hkd]; exact ⟨fun e => (by cases e), fun z => absurd z.2.2.1.symm (by simpa using z.2.2.2)⟩)]
                  simp [eqG_sh hs shaped_nilT, eqv_nilT, c1, lc, allG_map, ha, s1, hn, w1, w2, w3]
          · have : ¬ r.Nodup := fun z => hn (s3.mpr z)
            unfold g_is_right_command
            rw [hk false (by simp [this])]
            simp [eqG_sh hs shaped_nilT, eqv_nilT, c1, lc, allG_map, ha, s1, show n1 < r.length by omega]
      | _ =>
        unfold g_is_right_command
        simp [eqG_sh hs shaped_nilT, eqv_nilT, cmdD]
  | _ =>
    unfold g_is_right_command
    simp [cmdD]
/-- what is needed of a value that is looked at -/
structure Fit (v : PyData) : Prop where
  sh : SeqAt.shaped v = true
  cn : cnI v ≤ 4000
theorem cn_len : ∀ (xs : List PyData), xs.length ≤ cnAll xs
  | [] => Nat.zero_le _
  | x :: xs => by
    have := cn_len xs
    rw [List.length_cons, cnAll_cons]
    omega
theorem cn_mem {xs : List PyData} {x : PyData} (h : x ∈ xs) : cnI x + 1 ≤ cnAll xs := by
  induction xs with
  | nil => cases h
  | cons y xs ih =>
    rw [cnAll_cons]
    rcases List.mem_cons.mp h with e | e
    · rw [e]; omega
    · have := ih e
      omega
theorem lay_mem {xs : List PyData} {x : PyData} (h : x ∈ xs) : (PyData.canLayAll0 xs = true → x.canLay0 = true) ∧ x.depth ≤ PyData.depthAll xs := by
  induction xs with
  | nil => cases h
  | cons y xs ih =>
    simp only [PyData.canLayAll0, PyData.depthAll, Bool.and_eq_true]
    rcases List.mem_cons.mp h with e | e
    · rw [e]
      exact ⟨fun z => z.1, Nat.le_max_left _ _⟩
    · obtain ⟨a, b⟩ := ih e
      exact ⟨fun z => a z.2, Nat.le_trans b (Nat.le_max_right _ _)⟩
theorem Fit.parts {xs : List PyData} (h : Fit (.tuple xs)) : ∀ x, x ∈ xs → Fit x := fun x hx => by
  obtain ⟨h1, h2⟩ := h
  obtain ⟨a, b⟩ := lay_mem hx
  have := cn_mem hx
  rw [cnI_tup] at h2
  have d1 := SeqAt.depth_of_shaped h1
  have d2 := SeqAt.canLay_of_shaped h1
  simp only [PyData.depth] at d1
  simp only [PyData.canLay0] at d2
  exact ⟨canLay_shaped (a d2) (by omega), by omega⟩
theorem Fit.cm {v : PyData} (h : Fit v) (S : Store) : F_is_right_command [.d v] S = .ok (dB (cmdD v)) S :=
  cm_eq v S h.sh h.cn fun s r e => by
    subst e
    have := cn_len (.str s :: r)
    have := h.cn
    rw [cnI_tup] at this
    rw [List.length_cons] at *
    omega
noncomputable def scrD : PyData → Bool
  | .tuple xs => decide (xs.length ≤ 4) && xs.all cmdD
  | _ => false
theorem Fit.scr {v : PyData} (h : Fit v) (S : Store) : F_is_right_script [.d v] S = .ok (dB (scrD v)) S := by
  show endF (g_is_right_script [some (.d v), none] S) = _
  cases v with
  | tuple xs =>
    have hc := h.cn
    rw [cnI_tup] at hc
    have := cn_len xs
    have lc : lcD (tgN 1) none e_is_right_script_1 [some (.d (.tuple xs)), none] xs [] S = .ok (.own (xs.map fun x => PyData.bool (cmdD x))) S :=
      lcD_map xs (fun d hd => ⟨_, rfl, by unfold e_is_right_script_1; simp [(h.parts d hd).cm]⟩) (by omega)
    unfold g_is_right_script
    by_cases hl : xs.length ≤ 4
    · simp [lc, allG_map, scrD, hl, show (xs.length : Int) ≤ 4 by omega]
    · simp [lc, allG_map, scrD, hl, show ¬ (xs.length : Int) ≤ 4 by omega]
  | _ =>
    unfold g_is_right_script
    simp [scrD]
theorem drawing_eq (v : PyData) (S : Store) (hc : cnI v ≤ 4000) : F_is_drawing [.d v] S = .ok (dB (goodD v)) S := by
  show endF (g_is_drawing [some (.d v)] S) = _
  unfold g_is_drawing
  simp [right_eq v S hc]
theorem Fit.cmd {v : PyData} (h : Fit v) (S : Store) : F_is_command [.d v] S = .ok (dB (cmdD v)) S := by
  show endF (g_is_command [some (.d v)] S) = _
  unfold g_is_command
  simp [h.cm]
theorem Fit.script {v : PyData} (h : Fit v) (S : Store) : F_is_script [.d v] S = .ok (dB (scrD v)) S := by
  show endF (g_is_script [some (.d v)] S) = _
  unfold g_is_script
  simp [h.scr]
/-- a plain drawing -/
def grD : PyData → List PyData
  | .tuple ys => grAll ys
  | _ => []
open Classical in
theorem good_parts {v : PyData} (h : goodD v = true) : ∃ ys, v = .tuple ys ∧ wfAll ys = true ∧ (idsAll ys).Nodup ∧ (thAll ys).length ≤ 40 := by
  unfold goodD at h
  exact of_decide_eq_true h
theorem plain_eq (v : PyData) (S : Store) (hc : cnI v ≤ 4000) : F_is_plain [.d v] S = .ok (dB (goodD v && (grD v).isEmpty)) S := by
  show endF (g_is_plain [some (.d v)] S) = _
  unfold g_is_plain
  cases hg : goodD v with
  | false => simp [right_eq v S hc, hg]
  | true =>
    obtain ⟨ys, rfl, w, nd, hl⟩ := good_parts hg
    obtain ⟨a1, a2, a3, a4, a5, a6, a7⟩ := wf_parts _ (Nat.le_refl (cnAll ys)) w
    have n2 := a4.nodup_iff.mp nd
    rw [List.nodup_append] at n2
    have := names_few a2 n2.1
    simp [right_eq _ S hc, hg, groups_eq S 40 ys w (by omega) (by omega), eqG_sh (ids_shaped (id_names a2)).1 shaped_nilL, eqv_nilL, grD]
/-! ### the law's own -/
theorem lname_eq (v : PyData) (S : Store) : F__law_is_name [.d v] S = .ok (dB (isName v)) S := by
  show endF (g__law_is_name [some (.d v)] S) = _
  unfold g__law_is_name
  cases v <;> simp [inG, flatD, isName, PyData.eqv]
def is99 : PyData → Bool
  | .int i => decide (0 ≤ i) && decide (i ≤ 99)
  | _ => false
def isWide (lo hi : Int) : PyData → Bool
  | .tuple xs => decide (lo ≤ xs.length) && decide ((xs.length : Int) ≤ hi)
  | _ => false
@[simp] theorem isName_tup {xs : List PyData} : isName (.tuple xs) = false := rfl
@[simp] theorem is99_tup {xs : List PyData} : is99 (.tuple xs) = false := rfl
@[simp] theorem isThing_tupS {xs : List PyData} : isThing (.tuple xs) = false := rfl
theorem lwhole_eq (v : PyData) (S : Store) : F__law_whole [.d v, .d (.int 0), .d (.int 99)] S = .ok (dB (is99 v)) S := by
  show endF (g__law_whole [some (.d v), some (.d (.int 0)), some (.d (.int 99))] S) = _
  unfold g__law_whole
  cases v with
  | int i => by_cases h : 0 ≤ i <;> simp [h, is99]
  | _ => simp [is99]
theorem lwide_eq (v : PyData) (lo hi : Int) (S : Store) : F__law_wide [.d v, .d (.int lo), .d (.int hi)] S = .ok (dB (isWide lo hi v)) S := by
  show endF (g__law_wide [some (.d v), some (.d (.int lo)), some (.d (.int hi))] S) = _
  unfold g__law_wide
  cases v with
  | tuple xs => by_cases h : lo ≤ xs.length <;> simp [h, isWide]
  | _ => simp [isWide]
theorem lbool_eq (a b : Bool) (S : Store) : F__law_is_bool [.d (.bool a), .d (.bool b)] S = .ok (dB (a == b)) S := by
  show endF (g__law_is_bool [some (.d (.bool a)), some (.d (.bool b))] S) = _
  unfold g__law_is_bool
  simp [eqG_sh, PyData.eqv]
theorem lids_aux (S : Store) (a : Option EV) (F : DF) : ∀ (ys : List PyData) (acc : List PyData) (e : Option EV), (∀ n zs, .tuple [n, .tuple zs] ∈ ys → isName n = true → F [.d (.tuple zs)] S = .ok (.own (idnAll zs)) S) → acc.length + (idnAll ys).length ≤ 100000 →
    ∃ e', forD (tgN 2) (b__law_ids_1 F) ys [a, some (.own acc), e] S = .next [a, some (.own (acc ++ idnAll ys)), e'] S
  | [], acc, e, _, _ => ⟨e, by simp [forD]⟩
  | y :: ys, acc, e, hF, hl => by
    rw [idnAll_cons, List.length_append] at hl
    unfold forD
    have hb : b__law_ids_1 F ([a, some (.own acc), e].set 2 (some (.d y))) S = .next [a, some (.own (acc ++ idnI y)), some (.d y)] S := by
      unfold b__law_ids_1
      have app : ∀ z : PyData, acc.length < LIM := fun z => by
        unfold LIM; omega
      rcases form y with ⟨n, zs, rfl⟩ | ⟨h', h2, h3, h4, h5, h6, h7⟩
      · rw [idnI_g] at hl ⊢
        by_cases hn : isName n = true
        · have := hF n zs (by simp) hn
          rw [if_pos hn] at hl ⊢
          simp at hl
          simp [lwide_eq, isWide, lname_eq, hn, this, addG_list (show acc.length + [n].length ≤ 100000 by simp; omega), addG_list (show (acc ++ [n]).length + (idnAll zs).length ≤ 100000 by simp; omega)]
        · have hn' : isName n = false := by simpa using hn
          simp [lwide_eq, isWide, lname_eq, hn', appS, lwhole_eq, app .none]
      · rw [h7] at hl ⊢
        have hw : isWide 2 2 y = true → ∃ n m, y = .tuple [n, m] ∧ isTup m = false := fun h => by
          cases y with
          | tuple xs =>
            simp [isWide] at h
            match xs, h with
            | [n, m], _ =>
              refine ⟨n, m, rfl, ?_⟩
              cases m <;> first | rfl | exact absurd rfl (h' _ _)
            | [], h => simp at h
            | [_], h => simp at h
            | _ :: _ :: _ :: _, h => simp at h; omega
          | _ => cases h
        have fin : isThing y = (isName y || is99 y) := by
          cases y <;> simp [isThing, isName, is99]
        cases hq : isWide 2 2 y with
        | true =>
          obtain ⟨n, m, rfl, hm⟩ := hw hq
          have ht : ¬ (tyD m = "tuple") := by cases m <;> first | (simp; done) | cases hm
          cases hn : isName n <;> simp [lwide_eq, hq, lname_eq, hn, appS, lwhole_eq, app .none, ht]
        | false =>
          rw [fin]
          cases hn : isName y with
          | true => simp [lwide_eq, hq, lname_eq, hn, appS, app .none]
          | false =>
            cases hi : is99 y <;> simp [lwide_eq, hq, lname_eq, hn, lwhole_eq, hi, appS, app .none]
    obtain ⟨e', h⟩ := lids_aux S a F ys (acc ++ idnI y) (some (.d y)) (fun n zs hm => hF n zs (List.mem_cons_of_mem _ hm)) (by rw [List.length_append]; omega)
    refine ⟨e', ?_⟩
    simp only [tgN_ap, hb]
    rw [h, idnAll_cons, List.append_assoc]
theorem gd_mem {ys zs : List PyData} {n : PyData} (h : PyData.tuple [n, .tuple zs] ∈ ys) : PyData.depthAll zs + 2 ≤ PyData.depthAll ys ∧ (idnAll zs).length ≤ cnAll zs ∧ cnAll zs + 3 ≤ cnAll ys := by
  have h1 := (lay_mem h).2
  have h2 := cn_mem h
  simp only [PyData.depth, PyData.depthAll] at h1
  simp at h2
  exact ⟨by omega, (idn_none _ (Nat.le_refl _)).2.2, by omega⟩
theorem lids_eq (S : Store) : ∀ (d : Nat) (ys : List PyData), PyData.depthAll ys < d → cnAll ys ≤ 100000 → F__law_ids d [.d (.tuple ys)] S = .ok (.own (idnAll ys)) S
  | 0, ys, h, _ => by omega
  | d + 1, ys, h, hl => by
    show endF (g__law_ids (F__law_ids d) [some (.d (.tuple ys)), none, none] S) = _
    have l := (idn_none _ (Nat.le_refl (cnAll ys))).2.2
    obtain ⟨e', h2⟩ := lids_aux S (some (.d (.tuple ys))) (F__law_ids d) ys [] none (fun n zs hm _ => by
      obtain ⟨h1, h2, h3⟩ := gd_mem hm
      exact lids_eq S d zs (by omega) (by omega)) (by simpa using Nat.le_trans l hl)
    unfold g__law_ids
    simp [h2]
theorem lthings_aux (S : Store) (a : Option EV) (F : DF) : ∀ (ys : List PyData) (acc : List PyData) (e : Option EV), wfAll ys = true → (∀ n zs, .tuple [n, .tuple zs] ∈ ys → F [.d (.tuple zs)] S = .ok (.d (.list (thAll zs))) S) → acc.length + (thAll ys).length ≤ 100000 →
    ∃ e', forD (tgN 2) (b__law_things_1 F) ys [a, some (.d (.list acc)), e] S = .next [a, some (.d (.list (acc ++ thAll ys))), e'] S
  | [], acc, e, _, _, _ => ⟨e, by simp [forD]⟩
  | y :: ys, acc, e, w, hF, hl => by
    rw [wfAll_cons, Bool.and_eq_true] at w
    rw [thAll_cons, List.length_append] at hl
    unfold forD
    have hb : b__law_things_1 F ([a, some (.d (.list acc)), e].set 2 (some (.d y))) S = .next [a, some (.d (.list (acc ++ thI y))), some (.d y)] S := by
      unfold b__law_things_1
      rcases wf_form w.1 with ⟨n, zs, rfl, _, _⟩ | ⟨h1, h2, _, h3, _⟩
      · have := hF n zs (by simp)
        rw [thI_g] at hl
        simp [this, addG_list (show acc.length + (thAll zs).length ≤ 100000 by omega)]
      · rw [h3] at hl ⊢
        have h4 : (tyD y == "tuple") = false := by cases y <;> first | rfl | cases h2
        have h5 : ¬ (tyD y = "tuple") := fun z => by rw [z] at h4; simp at h4
        simp [h4, h5, addG_list (show acc.length + [y].length ≤ 100000 by simp at hl ⊢; omega)]
    obtain ⟨e', h⟩ := lthings_aux S a F ys (acc ++ thI y) (some (.d y)) w.2 (fun n zs hm => hF n zs (List.mem_cons_of_mem _ hm)) (by rw [List.length_append]; omega)
    refine ⟨e', ?_⟩
    simp only [tgN_ap, hb]
    rw [h, thAll_cons, List.append_assoc]
theorem lthings_eq (S : Store) : ∀ (d : Nat) (ys : List PyData), wfAll ys = true → dpAll ys < d → (thAll ys).length ≤ 100000 → F__law_things d [.d (.tuple ys)] S = .ok (.d (.list (thAll ys))) S
  | 0, ys, _, h, _ => by omega
  | d + 1, ys, w, h, hl => by
    show endF (g__law_things (F__law_things d) [some (.d (.tuple ys)), none, none] S) = _
    obtain ⟨e', h2⟩ := lthings_aux S (some (.d (.tuple ys))) (F__law_things d) ys [] none w (fun n zs hm => by
      obtain ⟨h1, h2, h3, _⟩ := wf_mem w hm
      rw [wfI_g, Bool.and_eq_true] at h1
      rw [dpI_g] at h2
      rw [thI_g] at h3
      exact lthings_eq S d zs h1.2 (by omega) (by omega)) (by simpa using hl)
    unfold g__law_things
    simp [h2]
/-- what a law looks at: not too deep, either -/
structure Fit2 (v : PyData) : Prop extends Fit v where
  dp : v.depth ≤ 39
theorem eqv_none {z : PyData} : PyData.eqv z .none = true ↔ z = .none := by cases z <;> simp [PyData.eqv]
theorem wf_dp : ∀ (n : Nat) {ys : List PyData}, cnAll ys ≤ n → dpAll ys ≤ PyData.depthAll ys
  | _, [], _ => by simp
  | 0, y :: ys, h => by rw [cnAll_cons] at h; omega
  | n + 1, y :: ys, h => by
    rw [cnAll_cons] at h
    have a := wf_dp n (ys := ys) (by omega)
    simp only [dpAll_cons, PyData.depthAll]
    rcases form y with ⟨m, zs, rfl⟩ | ⟨_, _, _, _, _, h6, _⟩
    · have b := wf_dp n (ys := zs) (by simp at h; omega)
      simp only [dpI_g, PyData.depth, PyData.depthAll]
      omega
    · omega
theorem Fit2.good {v : PyData} (h : Fit2 v) (S : Store) : F__law_good_drawing [.d v] S = .ok (dB (goodD v)) S := by
  show endF (g__law_good_drawing [some (.d v), none] S) = _
  cases v with
  | tuple ys =>
    have hc := h.cn
    rw [cnI_tup] at hc
    have hd := h.dp
    simp only [PyData.depth] at hd
    have hi := lids_eq S 40 ys (by omega) (by omega)
    obtain ⟨i1, i2, i3⟩ := idn_none _ (Nat.le_refl (cnAll ys))
    have hin : inG true .none (.list (idnAll ys)) = _ := inG_list shaped_none (ids_shaped i1).1
    rw [if_pos rfl] at hin
    have hq : (!((idnAll ys).any fun z => PyData.eqv z .none)) = wfAll ys := by
      rw [Bool.eq_iff_iff, ← i2, Bool.not_eq_true', ← Bool.not_eq_true, List.any_eq_true]
      exact ⟨fun z hm => z ⟨_, hm, eqv_none.mpr rfl⟩, fun z ⟨x, h1, h2⟩ => z (by rw [← eqv_none.mp h2]; exact h1)⟩
    rw [hq] at hin
    unfold g__law_good_drawing
    cases w : wfAll ys with
    | false =>
      rw [w] at hin
      rw [goodD_eq (b := false) ⟨fun ⟨zs, e, g1, _⟩ => (by cases e; rw [w] at g1; cases g1), fun z => by cases z⟩]
      simp [hi, hin]
    | true =>
      rw [w] at hin
      obtain ⟨a1, a2, a3, a4, a5, a6, a7⟩ := wf_parts _ (Nat.le_refl (cnAll ys)) w
      rw [a7] at hi hin
      obtain ⟨n1, s1, _, s2, s3⟩ := set_len (key_things a3) (by omega)
      have l1 := a4.length_eq
      rw [List.length_append] at l1
      have dl := wf_dp _ (Nat.le_refl (cnAll ys))
      have ht := lthings_eq S 40 ys w (by omega) (by omega)
      by_cases hn : n1 = (idsAll ys).length
      · rw [goodD_eq (b := decide ((thAll ys).length ≤ 40)) ⟨fun ⟨zs, e, _, _, g2⟩ => (by cases e; exact decide_eq_true g2), fun z => ⟨ys, rfl, w, s3.mp hn, of_decide_eq_true z⟩⟩]
        simp [hi, hin, s1, hn, ht]
        omega
      · rw [goodD_eq (b := false) ⟨fun ⟨zs, e, _, g1, _⟩ => (by cases e; exact absurd (s3.mpr g1) hn), fun z => by cases z⟩]
        have : ((n1 : Int) == ((idsAll ys).length : Int)) = false := by
          rw [beq_eq_false_iff_ne]
          omega
        simp [hi, hin, s1, this]
  | _ =>
    rw [goodD_eq (b := false) ⟨fun ⟨zs, e, _⟩ => (by cases e), fun z => by cases z⟩]
    unfold g__law_good_drawing
    simp
end P

set_option Elab.async false
set_option linter.all false
set_option maxRecDepth 100000
set_option maxHeartbeats 4000000
/-! P4: the law's good commands, scripts. -/
namespace P
open PySem PySem.Spec PyProof.Rows L2 DL U

@[simp] theorem get2E_ap {fo fe ff : DE} {env : DL.Env} {S : Store} : get2E fo fe ff env S = (fo env S).bind fun x S1 => match x with
  | .d (.dict ks) => (fe env S1).bind fun y S2 => (ff env S2).bind fun z S3 => match y, z with
    | .d (.str k), .d dz => .ok (.d ((lookD ks k).getD dz)) S3
    | _, _ => .stuck
  | _ => .stuck := rfl
theorem lay_all {xs : List PyData} (h : ∀ x, x ∈ xs → x.canLay0 = true) : PyData.canLayAll0 xs = true := by
  induction xs with
  | nil => simp [PyData.canLayAll0]
  | cons x xs ih => simp [PyData.canLayAll0, h x, ih fun y hy => h y (List.mem_cons_of_mem _ hy)]
theorem dep_all {n : Nat} {xs : List PyData} (h : ∀ x, x ∈ xs → x.depth ≤ n) : PyData.depthAll xs ≤ n := by
  induction xs with
  | nil => simp [PyData.depthAll]
  | cons x xs ih =>
    simp only [PyData.depthAll]
    exact Nat.max_le.mpr ⟨h x List.mem_cons_self, ih fun y hy => h y (List.mem_cons_of_mem _ hy)⟩
theorem shaped_sub {xs ys : List PyData} (h : SeqAt.shaped (.tuple ys) = true) (hs : ∀ x, x ∈ xs → x ∈ ys) : SeqAt.shaped (.list xs) = true ∧ SeqAt.shaped (.tuple xs) = true := by
  have d1 := SeqAt.depth_of_shaped h
  have d2 := SeqAt.canLay_of_shaped h
  simp only [PyData.depth] at d1
  simp only [PyData.canLay0] at d2
  have l := lay_all (xs := xs) fun x hx => (lay_mem (hs x hx)).1 d2
  have d := dep_all (n := PyData.depthAll ys) (xs := xs) fun x hx => (lay_mem (hs x hx)).2
  exact ⟨canLay_shaped (by simp only [PyData.canLay0]; exact l) (by simp only [PyData.depth]; omega), canLay_shaped (by simp only [PyData.canLay0]; exact l) (by simp only [PyData.depth]; omega)⟩
theorem sizes_eq (s : Str) : (lookD [(.str "front", .int 2), (.str "back", .int 2), (.str "up", .int 2), (.str "down", .int 2), (.str "ungroup", .int 2), (.str "above", .int 3), (.str "below", .int 3), (.str "group", .int 4)] s).getD (.int 0) = .int (if kind s = 0 then 0 else (kind s : Int) + 1) := by
  by_cases h1 : ("front" : Str) = s
  · subst h1; rfl
  by_cases h2 : ("back" : Str) = s
  · subst h2; rfl
  by_cases h3 : ("up" : Str) = s
  · subst h3; rfl
  by_cases h4 : ("down" : Str) = s
  · subst h4; rfl
  by_cases h5 : ("ungroup" : Str) = s
  · subst h5; rfl
  by_cases h6 : ("above" : Str) = s
  · subst h6; rfl
  by_cases h7 : ("below" : Str) = s
  · subst h7; rfl
  by_cases h8 : ("group" : Str) = s
  · subst h8; rfl
  simp [lookD, h1, h2, h3, h4, h5, h6, h7, h8, kind, words1, words2, PyData.eqv]
open Classical in
theorem Fit.lcmd {v : PyData} (h : Fit v) (S : Store) : F__law_good_command [.d v] S = .ok (dB (cmdD v)) S := by
  show endF (g__law_good_command [some (.d v), none, none, none] S) = _
  cases v with
  | tuple ys =>
    cases ys with
    | nil =>
      unfold g__law_good_command
      simp [eqG_sh h.sh shaped_nilT, eqv_nilT, cmdD]
    | cons x r =>
      cases x with
      | str s =>
        have h4 : r.length ≤ 4000 := by
          have := cn_len (.str s :: r)
          have := h.cn
          rw [cnI_tup] at this
          rw [List.length_cons] at *
          omega
        have c1 : DL.cutD (.str s :: r) (some 1) none = r := cut_from (k := 1) (by simp)
        have hk : ∀ b, (b = true ↔ (r.all isName = true ∧ r.Nodup ∧ kind s = r.length ∧ r.length ≠ 0)) → cmdD (.tuple (.str s :: r)) = b := fun b h => by
          unfold cmdD
          cases b with
          | true => exact decide_eq_true (h.mp rfl)
          | false => exact decide_eq_false fun z => by cases h.mpr z
        have z1 := sizes_eq s
        unfold g__law_good_command
        by_cases hs : kind s = r.length ∧ r.length ≠ 0
        · have hz : ((r.length : Int) + 1 != (if kind s = 0 then 0 else (kind s : Int) + 1)) = false := by
            rw [hs.1, if_neg hs.2]
            simp
          have lc : ∀ e, lcD (tgN 3) (some c__law_good_command_1) e__law_good_command_1 [some (.d (.tuple (.str s :: r))), e, some (.d (.list r)), none] r [] S = .ok (.own (r.filter fun x => !isName x)) S := fun e =>
            lcD_filter r (fun d hd => ⟨_, rfl, by unfold c__law_good_command_1; simp [lname_eq], by unfold e__law_good_command_1; simp⟩) (by omega)
          have hf := (shaped_sub (xs := r.filter fun x => !isName x) h.sh fun x hx => List.mem_cons_of_mem _ ((List.mem_filter.mp hx).1)).1
          cases ha : r.all isName with
          | false =>
            rw [hk false (by simp [ha])]
            have hne : (r.filter fun x => !isName x).isEmpty = false := by
              cases q : r.filter fun x => !isName x with
              | cons a l => rfl
              | nil =>
                have := List.filter_eq_nil_iff.mp q
                have : r.all isName = true := List.all_eq_true.mpr fun x hx => by simpa using this x hx
                rw [ha] at this
                cases this
            simp [eqG_sh h.sh shaped_nilT, eqv_nilT, c1, z1, hz, lc, eqG_sh hf shaped_nilL, eqv_nilL, hne]
          | true =>
            obtain ⟨n1, s1, _, s2, s3⟩ := set_len (key_names ha) h4
            have hne : (r.filter fun x => !isName x).isEmpty = true := by
              rw [List.isEmpty_iff]
              exact List.filter_eq_nil_iff.mpr fun x hx => by simp [List.all_eq_true.mp ha x hx]
            rw [hk (n1 == r.length) (by rw [beq_iff_eq, s3]; exact ⟨fun z => ⟨ha, z, hs⟩, fun z => z.2.1⟩)]
            simp [eqG_sh h.sh shaped_nilT, eqv_nilT, c1, z1, hz, lc, eqG_sh hf shaped_nilL, eqv_nilL, hne, s1]
            exact Bool.eq_iff_iff.mpr (by simp; omega)
        · rw [hk false ⟨fun z => (by cases z), fun z => absurd z.2.2 hs⟩]
          have hz : ((r.length : Int) + 1 != (if kind s = 0 then 0 else (kind s : Int) + 1)) = true := by
            rw [bne_iff_ne]
            split <;> omega
          simp [eqG_sh h.sh shaped_nilT, eqv_nilT, c1, z1, hz]
      | _ =>
        unfold g__law_good_command
        simp [eqG_sh h.sh shaped_nilT, eqv_nilT, cmdD]
  | _ =>
    unfold g__law_good_command
    simp [cmdD]
theorem Fit.lscr {v : PyData} (h : Fit v) (S : Store) : F__law_good_script [.d v] S = .ok (dB (scrD v)) S := by
  show endF (g__law_good_script [some (.d v), none] S) = _
  cases v with
  | tuple xs =>
    have hc := h.cn
    rw [cnI_tup] at hc
    have := cn_len xs
    have lc : lcD (tgN 1) (some c__law_good_script_1) e__law_good_script_1 [some (.d (.tuple xs)), none] xs [] S = .ok (.own (xs.filter fun x => !cmdD x)) S :=
      lcD_filter xs (fun d hd => ⟨_, rfl, by unfold c__law_good_script_1; simp [(h.parts d hd).lcmd], by unfold e__law_good_script_1; simp⟩) (by omega)
    have hf := (shaped_sub (xs := xs.filter fun x => !cmdD x) h.sh fun x hx => ((List.mem_filter.mp hx).1)).1
    have he : (xs.filter fun x => !cmdD x).isEmpty = xs.all cmdD := by
      rw [Bool.eq_iff_iff, List.isEmpty_iff, List.filter_eq_nil_iff, List.all_eq_true]
      simp
    unfold g__law_good_script
    by_cases hl : xs.length ≤ 4
    · simp [lwide_eq, isWide, lc, scrD, hl, show (xs.length : Int) ≤ 4 by omega, eqG_sh hf shaped_nilL, eqv_nilL, he]
    · simp [lwide_eq, isWide, lc, scrD, hl, show ¬ (xs.length : Int) ≤ 4 by omega]
  | _ =>
    unfold g__law_good_script
    simp [scrD, lwide_eq, isWide]
/-! ### draws -/
/-- the cell of a source -/
def Drw (l : Nat) (S : Store) : Prop := ∃ a b : Int, S[l]? = some (.lst [.int a, .int b]) ∧ 0 ≤ a ∧ 0 ≤ b ∧ b < 2 ^ 40
theorem drw_set {l : Nat} {S : Store} {a b : Int} {c : Cell} (h : S[l]? = some c) (h1 : 0 ≤ a) (h2 : 0 ≤ b) (h3 : b < 2 ^ 40) : Drw l (S.set l (.lst [.int a, .int b])) := by
  refine ⟨a, b, ?_, h1, h2, h3⟩
  rw [List.getElem?_set_self (List.getElem?_eq_some_iff.mp h).1]
@[simp] theorem setS_ap {i : Nat} {fi fv : DE} {env : DL.Env} {S : Store} : setS i fi fv env S = (fv env S).bindS env fun x S1 => match x.fixed, env[i]? with
  | some (.d d), some (some _) => (fi env S1).bindS env fun y S2 => kPut env i d y S2
  | _, _ => .stuck := rfl
@[simp] theorem kPut_int {env : DL.Env} {i : Nat} {d : PyData} {k : Int} {S : Store} : kPut env i d (.d (.int k)) S = putI env S i k d := rfl
theorem put_ref {env : DL.Env} {i l : Nat} {d : PyData} {k : Int} {S : Store} {xs : List PyData} {j : Nat} (h : env[i]? = some (some (.ref l))) (h2 : S[l]? = some (.lst xs)) (h3 : ixN xs.length k = some j) : putI env S i k d = .next env (S.set l (.lst (xs.set j d))) := by
  unfold putI
  simp only [h, h2, h3]
theorem pick {l : Nat} {S : Store} (h : Drw l S) {m : Nat} (h1 : 0 < m) (h2 : m < 1073741824) : ∃ n S', n < m ∧ F__law_pick [.ref l, .d (.int m)] S = .ok (.d (.int (n : Nat))) S' ∧ Drw l S' := by
  obtain ⟨a, b, e, ha, hb, hb2⟩ := h
  by_cases hp : 0 < a
  · have hr : 0 ≤ a % (m : Int) := Int.emod_nonneg _ (by omega)
    have hr2 : a % (m : Int) < m := Int.emod_lt_of_pos _ (by omega)
    refine ⟨(a % (m : Int)).toNat, S.set l (.lst [.int (a / m), .int b]), by omega, ?_, drw_set e (Int.ediv_nonneg ha (by omega)) hb hb2⟩
    show endF (g__law_pick [some (.ref l), some (.d (.int m)), none] S) = _
    unfold g__law_pick
    have hput := put_ref (env := [some (.ref l), some (.d (.int m)), some (.d (.int (a % m)))]) (i := 0) (l := l) (d := .int (a / m)) (k := 0) (S := S) (xs := [.int a, .int b]) (j := 0) rfl e (by rfl)
    simp [kIx_ref e, hp, h1, show (m : Int) < 1073741824 by omega, h2, hput]
    omega
  · have h3 : 0 ≤ (b * 44497 + 9973) % 2147483647 := Int.emod_nonneg _ (by omega)
    have h4 : (b * 44497 + 9973) % 2147483647 < 2147483647 := Int.emod_lt_of_pos _ (by omega)
    have e2 : (S.set l (.lst [.int a, .int ((b * 44497 + 9973) % 2147483647)]))[l]? = some (.lst [.int a, .int ((b * 44497 + 9973) % 2147483647)]) := by
      rw [List.getElem?_set_self (List.getElem?_eq_some_iff.mp e).1]
    generalize hc : (b * 44497 + 9973) % 2147483647 = c at h3 h4 e2
    have hr : 0 ≤ c * c % 2147483399 / 11 % (m : Int) := Int.emod_nonneg _ (by omega)
    have hr2 : c * c % 2147483399 / 11 % (m : Int) < m := Int.emod_lt_of_pos _ (by omega)
    refine ⟨(c * c % 2147483399 / 11 % (m : Int)).toNat, S.set l (.lst [.int a, .int c]), by omega, ?_, drw_set e ha h3 (by omega)⟩
    show endF (g__law_pick [some (.ref l), some (.d (.int m)), none] S) = _
    unfold g__law_pick
    have hput := put_ref (env := [some (.ref l), some (.d (.int m)), none]) (i := 0) (l := l) (d := .int c) (k := 1) (S := S) (xs := [.int a, .int b]) (j := 1) rfl e (by rfl)
    simp [kIx_ref e, hp, show (-18446744073709551616 : Int) < b by omega, show b < 18446744073709551616 by omega, hc, hput]
    simp [kIx_ref e2, h1, show (-18446744073709551616 : Int) < c by omega, show c < 18446744073709551616 by omega, show (0 : Int) < m by omega]
    omega
end P

set_option Elab.async false
set_option linter.all false
set_option maxRecDepth 100000
set_option maxHeartbeats 4000000
/-! P5: drawn drawings. -/
namespace P
open PySem PySem.Spec PyProof.Rows L2 DL U

@[simp] theorem rng1_ap {f : DE} {env : DL.Env} {S : Store} : rng1 f env S = (f env S).bind rngK := rfl
@[simp] theorem rng2_ap {f g : DE} {env : DL.Env} {S : Store} : rng2 f g env S = (f env S).bind fun x S1 => (g env S1).bind (rng2K x) := rfl
theorem rngK_nat {k : Nat} (h : k ≤ 100000) {S : Store} : rngK (.d (.int (k : Nat))) S = .ok (.d (.list (rngL 0 k))) S := by
  unfold rngK
  simp only
  rw [if_pos (by omega)]
  rfl
@[simp] theorem powG_int {i j : Int} : powG (.int i) (.int j) = if 0 ≤ j ∧ j ≤ 1000000 ∧ i.natAbs < 2 ^ 64 then some (.d (.int (i ^ j.toNat))) else none := rfl
theorem source (ns : List Int) (k : Nat) (hk : k ≤ 1000) (S : Store) : ∃ a b : Int, F__law_source [.scr ns, .d (.int (k : Nat))] S = .ok (.own [.int a, .int b]) S ∧ 0 ≤ a ∧ 0 ≤ b ∧ b < 2 ^ 40 := by
  have main : ∀ n : Int, ∃ a b : Int, (seqS (asgF 3 (modE (addE (addE (mulE (rdE 2) (cE (.int 16807))) (mulE (cE (.int 60919)) (rdE 1))) (cE (.int 31))) (cE (.int 2147481173)))) (seqS (asgF 3 (addE (addE (modE (mulE (rdE 3) (rdE 3)) (cE (.int 2147481151))) (mulE (cE (.int 2)) (rdE 1))) (cE (.int 5)))) (retS (lstE [ifE (geE (rdE 2) (powE (cE (.int 10)) (cE (.int 18)))) (rdE 2) (cE (.int 0)), rdE 3])))) [some (.scr ns), some (.d (.int (k : Nat))), some (.d (.int n)), none] S = .ret (.own [.int a, .int b]) S ∧ 0 ≤ a ∧ 0 ≤ b ∧ b < 2 ^ 40 := by
    intro n
    have h1 : 0 ≤ (n * 16807 + 60919 * (k : Int) + 31) % 2147481173 := Int.emod_nonneg _ (by omega)
    have h2 : (n * 16807 + 60919 * (k : Int) + 31) % 2147481173 < 2147481173 := Int.emod_lt_of_pos _ (by omega)
    simp
    generalize (n * 16807 + 60919 * (k : Int) + 31) % 2147481173 = c at h1 h2 ⊢
    have h3 : 0 ≤ c * c % 2147481151 := Int.emod_nonneg _ (by omega)
    have h4 : c * c % 2147481151 < 2147481151 := Int.emod_lt_of_pos _ (by omega)
    simp [show (-18446744073709551616 : Int) < c by omega, show c < 18446744073709551616 by omega]
    by_cases hn : (1000000000000000000 : Int) ≤ n
    · exact ⟨n, c * c % 2147481151 + 2 * k + 5, by simp [hn], by omega, by omega, by omega⟩
    · exact ⟨0, c * c % 2147481151 + 2 * k + 5, by simp [hn], by omega, by omega, by omega⟩
  by_cases hl : k < ns.length
  · obtain ⟨a, b, e, h⟩ := main ns[k]
    refine ⟨a, b, ?_, h⟩
    show endF (g__law_source [some (.scr ns), some (.d (.int (k : Nat))), none, none] S) = _
    unfold g__law_source
    rw [seqS_ap, asgF_ap, cE_ap]
    simp only [RE.bindS_ok, fixed_d, RS.bind_next]
    rw [seqS_ap]
    have : (ifS (gtE (lenE (rdE 0)) (rdE 1)) (asgF 2 (intE (ixE (rdE 0) (rdE 1)))) nopS) ([some (EV.scr ns), some (EV.d (.int (k : Nat))), none, none].set 2 (some (EV.d (.int 0)))) S = .next [some (.scr ns), some (.d (.int (k : Nat))), some (.d (.int ns[k])), none] S := by
      simp [hl, atI_nat hl]
    rw [this, RS.bind_next, e]
    rfl
  · obtain ⟨a, b, e, h⟩ := main 0
    refine ⟨a, b, ?_, h⟩
    show endF (g__law_source [some (.scr ns), some (.d (.int (k : Nat))), none, none] S) = _
    unfold g__law_source
    rw [seqS_ap, asgF_ap, cE_ap]
    simp only [RE.bindS_ok, fixed_d, RS.bind_next]
    rw [seqS_ap]
    have : (ifS (gtE (lenE (rdE 0)) (rdE 1)) (asgF 2 (intE (ixE (rdE 0) (rdE 1)))) nopS) ([some (EV.scr ns), some (EV.d (.int (k : Nat))), none, none].set 2 (some (EV.d (.int 0)))) S = .next [some (.scr ns), some (.d (.int (k : Nat))), some (.d (.int 0)), none] S := by
      simp [hl]
    rw [this, RS.bind_next, e]
    rfl
theorem drw_new {S : Store} {a b : Int} (h1 : 0 ≤ a) (h2 : 0 ≤ b) (h3 : b < 2 ^ 40) : Drw S.length (S ++ [.lst [.int a, .int b]]) :=
  ⟨a, b, by rw [List.getElem?_append_right (Nat.le_refl _), Nat.sub_self]; rfl, h1, h2, h3⟩
theorem chosen {l : Nat} {S : Store} (h : Drw l S) {xs : List PyData} (h1 : xs ≠ []) (h2 : xs.length < 1000000) : ∃ d S', d ∈ xs ∧ F__law_chosen [.ref l, .d (.list xs)] S = .ok (.d d) S' ∧ Drw l S' := by
  have h0 : 0 < xs.length := List.length_pos_iff.mpr h1
  obtain ⟨n, S', hn, e, h'⟩ := pick h (m := xs.length) h0 (by omega)
  refine ⟨xs[n], S', List.getElem_mem hn, ?_, h'⟩
  show endF (g__law_chosen [some (.ref l), some (.d (.list xs))] S) = _
  unfold g__law_chosen
  simp [e, atI_nat hn]
/-- the three names in some order -/
def perms3 : List (Str × Str × Str) := [("a", "b", "c"), ("a", "c", "b"), ("b", "a", "c"), ("b", "c", "a"), ("c", "a", "b"), ("c", "b", "a")]
theorem three {l : Nat} {S : Store} (h : Drw l S) : ∃ x y z S', (x, y, z) ∈ perms3 ∧ F__law_three [.ref l] S = .ok (.own [.str x, .str y, .str z]) S' ∧ Drw l S' := by
  obtain ⟨d, S', hd, e, h'⟩ := chosen h (xs := [.str "abc", .str "acb", .str "bac", .str "bca", .str "cab", .str "cba"]) (by simp) (by simp)
  have hg : F__law_three [.ref l] S = endF (((RE.ok (.d d) S').bind (vUn listG)).bindS [some (.ref l)] (fun x S1 => .ret x.moved S1)) := by
    show endF (g__law_three [some (.ref l)] S) = _
    unfold g__law_three
    simp [e]
  rw [hg]
  simp only [List.mem_cons, List.not_mem_nil, or_false] at hd
  rcases hd with rfl | rfl | rfl | rfl | rfl | rfl
  · exact ⟨"a", "b", "c", S', by simp [perms3], by rfl, h'⟩
  · exact ⟨"a", "c", "b", S', by simp [perms3], by rfl, h'⟩
  · exact ⟨"b", "a", "c", S', by simp [perms3], by rfl, h'⟩
  · exact ⟨"b", "c", "a", S', by simp [perms3], by rfl, h'⟩
  · exact ⟨"c", "a", "b", S', by simp [perms3], by rfl, h'⟩
  · exact ⟨"c", "b", "a", S', by simp [perms3], by rfl, h'⟩
theorem perm_erase {α : Type} : ∀ (xs : List α) (k : Nat) (h : k < xs.length), (xs[k] :: xs.eraseIdx k).Perm xs
  | x :: xs, 0, _ => by simp
  | x :: xs, k + 1, h => by
    have := perm_erase xs k (by simpa using h)
    simp only [List.getElem_cons_succ, List.eraseIdx_cons_succ]
    exact (List.Perm.swap x (xs[k]'(by simpa using h)) _).trans (this.cons x)
theorem lids_shaped {xs : List PyData} (h : xs.all isThing = true) : SeqAt.shaped (.list xs) = true := (ids_shaped (id_things h)).1
theorem mixed_go {l : Nat} {a b : Option EV} (hr : a = some (.ref l)) : ∀ (n : Nat) (left found : List PyData) (S : Store) (fuel : Nat), left.length = n → n < fuel → left.all isThing = true → found.length + n ≤ 1000 → Drw l S →
    ∃ zs S', (zs.Perm (found ++ left)) ∧ whD c__law_mixed_1 b__law_mixed_1 fuel [a, b, some (.own left), some (.own found)] S = .next [a, b, some (.own []), some (.own zs)] S' ∧ Drw l S'
  | 0, left, found, S, fuel + 1, hl, hf, ht, hb, h => by
    have : left = [] := List.eq_nil_of_length_eq_zero hl
    subst this
    refine ⟨found, S, by simp, ?_, h⟩
    unfold whD
    have : c__law_mixed_1 [a, b, some (.own []), some (.own found)] S = .ok (.d (.bool false)) S := by
      unfold c__law_mixed_1
      simp [neG_sh shaped_nilL shaped_nilL, eqv_nilL]
    rw [this]
    simp
  | n + 1, left, found, S, fuel + 1, hl, hf, ht, hb, h => by
    obtain ⟨k, S', hk, e, h'⟩ := pick h (m := left.length) (by omega) (by omega)
    have hc : c__law_mixed_1 [a, b, some (.own left), some (.own found)] S = .ok (.d (.bool true)) S := by
      unfold c__law_mixed_1
      have : left.isEmpty = false := by
        cases left with
        | nil => simp at hl
        | cons x xs => rfl
      simp [neG_sh (lids_shaped ht) shaped_nilL, eqv_nilL, this]
    have hbd : b__law_mixed_1 [a, b, some (.own left), some (.own found)] S = .next [a, b, some (.own (left.eraseIdx k)), some (.own (found ++ [left[k]]))] S' := by
      unfold b__law_mixed_1
      unfold appPop
      subst hr
      simp [e, ixN_nat hk, hk]
      unfold LIM
      omega
    have hl2 : (left.eraseIdx k).length = n := by rw [List.length_eraseIdx, if_pos hk]; omega
    have pe := perm_erase left k hk
    obtain ⟨zs, S2, p, e2, h2⟩ := mixed_go hr n (left.eraseIdx k) (found ++ [left[k]]) S' fuel hl2 (by omega) (by
      rw [List.all_eq_true] at ht ⊢
      exact fun x hx => ht x (pe.mem_iff.mp (List.mem_cons_of_mem _ hx))) (by simp; omega) h'
    refine ⟨zs, S2, p.trans ?_, ?_, h2⟩
    · rw [List.append_assoc]
      exact List.Perm.append_left _ pe
    · unfold whD
      rw [hc]
      simp only [RE.bindBS_ok, if_true, hbd]
      exact e2
theorem mixed {l : Nat} {S : Store} (h : Drw l S) {xs : List PyData} (ht : xs.all isThing = true) (hl : xs.length ≤ 150) : ∃ zs S', zs.Perm xs ∧ F__law_mixed [.ref l, .d (.list xs)] S = .ok (.own zs) S' ∧ Drw l S' := by
  obtain ⟨zs, S', p, e, h'⟩ := mixed_go (a := some (.ref l)) (b := some (.d (.list xs))) rfl xs.length xs [] S 200 rfl (by omega) ht (by simp; omega) h
  refine ⟨zs, S', by simpa using p, ?_, h'⟩
  show endF (g__law_mixed [some (.ref l), some (.d (.list xs)), none, none] S) = _
  unfold g__law_mixed
  simp [e]
/-! ### a drawn drawing -/
theorem things_wf : ∀ {xs : List PyData}, xs.all isThing = true → wfAll xs = true ∧ idsAll xs = xs ∧ grAll xs = [] ∧ thAll xs = xs ∧ cnAll xs = xs.length
  | [], _ => by simp
  | x :: xs, h => by
    simp only [List.all_cons, Bool.and_eq_true] at h
    obtain ⟨a, b, c, d, e⟩ := things_wf h.2
    have hx : wfI x = true ∧ idsI x = [x] ∧ grI x = [] ∧ thI x = [x] ∧ cnI x = 0 := by
      have hc : cnI x = 0 := by
        cases x with
        | int i => unfold cnI; rfl
        | str i => unfold cnI; rfl
        | _ => cases h.1
      rcases form x with ⟨n, ys, rfl⟩ | ⟨_, e1, e2, e3, e4, _⟩
      · cases h.1
      · exact ⟨e1.trans h.1, e2, e4, e3, hc⟩
    obtain ⟨p, q, r, s, t⟩ := hx
    simp [a, b, c, d, e, p, q, r, s, t]
    omega
theorem all_app (xs ys : List PyData) : wfAll (xs ++ ys) = (wfAll xs && wfAll ys) ∧ idsAll (xs ++ ys) = idsAll xs ++ idsAll ys ∧ grAll (xs ++ ys) = grAll xs ++ grAll ys ∧ thAll (xs ++ ys) = thAll xs ++ thAll ys ∧ cnAll (xs ++ ys) = cnAll xs + cnAll ys ∧ PyData.depthAll (xs ++ ys) = max (PyData.depthAll xs) (PyData.depthAll ys) := by
  induction xs with
  | nil => simp [PyData.depthAll]
  | cons x xs ih =>
    obtain ⟨a, b, c, d, e, f⟩ := ih
    simp [a, b, c, d, e, f, Bool.and_assoc, PyData.depthAll, Nat.max_assoc]
    omega
end P

set_option Elab.async false
set_option linter.all false
set_option maxRecDepth 100000
set_option maxHeartbeats 4000000
/-! P6: drawn drawings. -/
namespace P
open PySem PySem.Spec PyProof.Rows L2 DL U

/-- a well-formed drawing's measures -/
theorem wf_meas : ∀ (n : Nat) {ys : List PyData}, cnAll ys ≤ n → wfAll ys = true → cnAll ys = (thAll ys).length + 3 * (grAll ys).length ∧ PyData.depthAll ys ≤ 2 * dpAll ys ∧ PyData.canLayAll0 ys = true
  | _, [], _, _ => by simp [PyData.depthAll, PyData.canLayAll0]
  | 0, y :: ys, h, _ => by rw [cnAll_cons] at h; omega
  | n + 1, y :: ys, h, w => by
    rw [cnAll_cons] at h
    rw [wfAll_cons, Bool.and_eq_true] at w
    obtain ⟨a, b, c⟩ := wf_meas n (ys := ys) (by omega) w.2
    have one : cnI y + 1 = (thI y).length + 3 * (grI y).length ∧ y.depth ≤ 2 * dpI y ∧ y.canLay0 = true := by
      rcases wf_form w.1 with ⟨m, zs, rfl, hm, hz⟩ | ⟨h1, h2, h3, h4, h5, h6, h7⟩
      · obtain ⟨p, q, r⟩ := wf_meas n (ys := zs) (by simp at h; omega) hz
        obtain ⟨nm, nd⟩ := name_lay hm
        have nd0 : m.depth = 0 := by
          rcases name_cases hm with rfl | rfl | rfl <;> simp [PyData.depth]
        have nc : cnI m = 0 := by
          rcases name_cases hm with rfl | rfl | rfl <;> (unfold cnI; rfl)
        refine ⟨?_, ?_, ?_⟩
        · simp only [cnI_tup, cnAll_cons, cnAll_nil, thI_g, grI_g, List.length_cons]; omega
        · simp only [PyData.depth, PyData.depthAll, dpI_g, nd0]; omega
        · simp [PyData.canLay0, PyData.canLayAll0, nm, r]
      · rw [h4, h5, h6]
        obtain ⟨l1, l2⟩ := id_lay (thing_id h1)
        refine ⟨?_, ?_, l1⟩
        · cases y with
          | int i => unfold cnI; rfl
          | str i => unfold cnI; rfl
          | _ => cases h1
        · cases y with
          | int i => simp [PyData.depth]
          | str i => simp [PyData.depth]
          | _ => cases h1
    obtain ⟨p, q, r⟩ := one
    simp only [cnAll_cons, thAll_cons, grAll_cons, dpAll_cons, List.length_append, PyData.depthAll, PyData.canLayAll0]
    refine ⟨by omega, by omega, by simp [r, c]⟩
/-- a drawing as the laws draw it -/
structure Drawn (most : Nat) (flat : Bool) (ys : List PyData) : Prop where
  wf : wfAll ys = true
  nd : (idsAll ys).Nodup
  th : (thAll ys).length ≤ 3 + most
  gr : (grAll ys).length ≤ 2
  fl : flat = true → grAll ys = []
theorem Drawn.meas {most : Nat} {flat : Bool} {ys : List PyData} (h : Drawn most flat ys) : cnAll ys ≤ 9 + most ∧ PyData.depthAll ys ≤ 4 ∧ PyData.canLayAll0 ys = true ∧ dpAll ys ≤ 2 := by
  obtain ⟨a, b, c⟩ := wf_meas _ (Nat.le_refl (cnAll ys)) h.wf
  obtain ⟨_, _, _, _, d, _⟩ := wf_parts _ (Nat.le_refl (cnAll ys)) h.wf
  have := h.th
  have := h.gr
  exact ⟨by omega, by omega, c, by omega⟩
theorem nums_nodup (n : Nat) (h : n ≤ 100) : ((List.range n).map fun i => PyData.int ((7 * (0 + (i : Nat)) + 3) % 100)).Nodup := by
  rw [List.Nodup, List.pairwise_map]
  refine List.Pairwise.imp_of_mem ?_ (List.nodup_range (n := n))
  intro a b ha hb hne e
  have h1 := List.mem_range.mp ha
  have h2 := List.mem_range.mp hb
  have e2 : (7 * (0 + (a : Int)) + 3) % 100 = (7 * (0 + (b : Int)) + 3) % 100 := PyData.int.inj e
  exact hne (by omega)
theorem range_map {n : Nat} {α : Type} (f : PyData → α) : (rngL 0 n).map f = (List.range n).map fun i => f (.int (0 + (i : Nat))) := by
  unfold rngL
  rw [List.map_map]
  rfl
def abc : List PyData := [.str "a", .str "b", .str "c"]
theorem abc_items : itemsG (.str "abc") = some abc := by rfl
theorem perms_names {x y z : Str} (h : (x, y, z) ∈ perms3) : ([.str x, .str y, .str z] : List PyData).all isName = true ∧ ([.str x, .str y, .str z] : List PyData).Nodup := by
  have key : ∀ p ∈ perms3, isName (.str p.1) = true ∧ isName (.str p.2.1) = true ∧ isName (.str p.2.2) = true ∧ p.1 ≠ p.2.1 ∧ p.1 ≠ p.2.2 ∧ p.2.1 ≠ p.2.2 := by decide +kernel
  obtain ⟨a, b, c, d, e, f⟩ := key _ h
  exact ⟨by simp [a, b, c], by simp [d, e, f]⟩
/-- a group is made of some neighbours -/
theorem group_made {xs : List PyData} {n : PyData} {lo hi : Nat} (hl : lo ≤ hi) (hh : hi ≤ xs.length) : xs.take lo ++ (xs.drop lo).take (hi - lo) ++ xs.drop hi = xs := by
  have : (xs.drop lo).take (hi - lo) ++ xs.drop hi = xs.drop lo := by
    have e : xs.drop hi = (xs.drop lo).drop (hi - lo) := by rw [List.drop_drop]; congr 1; omega
    rw [e, List.take_append_drop]
  rw [List.append_assoc, this, List.take_append_drop]
theorem cut_mid {xs : List PyData} {lo hi : Nat} (hl : lo ≤ hi) (hh : hi ≤ xs.length) : DL.cutD xs (some (lo : Int)) (some (hi : Int)) = (xs.drop lo).take (hi - lo) := by
  unfold DL.cutD
  rw [HT.sIx_nat, HT.sIx_nat, Nat.min_eq_left (show lo ≤ xs.length by omega), Nat.min_eq_left hh]
theorem drawing_loop {l : Nat} {e1 e2 e3 e4 e5 e10 : Option EV} : ∀ (gs : List PyData) (items : List PyData) (e7 e8 e9 : Option EV) (S : Store), gs.all isName = true → wfAll items = true → items.length + gs.length ≤ 1000 → Drw l S →
    ∃ ys S' e7' e8' e9', forD (tgN 7) b__law_drawing_1 gs [some (.ref l), e1, e2, e3, e4, e5, some (.d (.tuple items)), e7, e8, e9, e10] S = .next [some (.ref l), e1, e2, e3, e4, e5, some (.d (.tuple ys)), e7', e8', e9', e10] S' ∧ Drw l S' ∧
      wfAll ys = true ∧ (idsAll ys).Perm (gs ++ idsAll items) ∧ (thAll ys).Perm (thAll items) ∧ (grAll ys).Perm (gs ++ grAll items)
  | [], items, e7, e8, e9, S, _, w, _, h => ⟨items, S, e7, e8, e9, by simp [forD], h, w, List.Perm.refl _, List.Perm.refl _, List.Perm.refl _⟩
  | g :: gs, items, e7, e8, e9, S, hg, w, hl, h => by
    simp only [List.all_cons, Bool.and_eq_true] at hg
    rw [List.length_cons] at hl
    obtain ⟨lo, S1, hlo, p1, h1⟩ := pick h (m := items.length + 1) (by omega) (by omega)
    obtain ⟨k, S2, hk, p2, h2⟩ := pick h1 (m := items.length - lo + 1) (by omega) (by omega)
    have hb : b__law_drawing_1 [some (.ref l), e1, e2, e3, e4, e5, some (.d (.tuple items)), some (.d g), e8, e9, e10] S = .next [some (.ref l), e1, e2, e3, e4, e5, some (.d (.tuple (items.take lo ++ [.tuple [g, .tuple ((items.drop lo).take k)]] ++ items.drop (lo + k)))), some (.d g), some (.d (.int (lo : Nat))), some (.d (.int ((lo + k : Nat) : Int))), e10] S2 := by
      unfold b__law_drawing_1
      have q1 : F__law_pick [.ref l, .d (.int ((items.length : Int) + 1))] S = _ := p1
      have q2 : F__law_pick [.ref l, .d (.int ((items.length : Int) - (lo : Int) + 1))] S1 = .ok (.d (.int (k : Nat))) S2 := by
        have e : ((items.length : Int) - (lo : Int) + 1) = ((items.length - lo + 1 : Nat) : Int) := by omega
        rw [e]
        exact p2
      have c1 : DL.cutD items none (some (lo : Int)) = _ := cut_to (by omega)
      have c2 : DL.cutD items (some (lo : Int)) (some ((lo : Int) + (k : Int))) = _ := cut_mid (lo := lo) (hi := lo + k) (by omega) (by omega)
      have c3 : DL.cutD items (some ((lo : Int) + (k : Int))) none = _ := cut_from (k := lo + k) (by omega)
      rw [Nat.add_sub_cancel_left] at c2
      simp [q1, q2, c1, c2, c3]
      rw [addG_tuple (by simp; omega)]
      simp
      rw [addG_tuple (by simp; omega)]
      simp
    have ee := group_made (xs := items) (n := g) (lo := lo) (hi := lo + k) (by omega) (by omega)
    rw [Nat.add_sub_cancel_left] at ee
    generalize ha : items.take lo = A at ee hb
    generalize hbb : (items.drop lo).take k = B at ee hb
    generalize hc : items.drop (lo + k) = C at ee hb
    subst ee
    simp only [(all_app _ _).1, Bool.and_eq_true] at w
    have w' : wfAll (A ++ [.tuple [g, .tuple B]] ++ C) = true := by
      simp [(all_app _ _).1, w.1.1, w.1.2, w.2, hg.1]
    obtain ⟨ys, S', e7', e8', e9', hf, h', hw, hp1, hp2, hp3⟩ := drawing_loop gs (A ++ [.tuple [g, .tuple B]] ++ C) (some (.d g)) (some (.d (.int (lo : Nat)))) (some (.d (.int ((lo + k : Nat) : Int)))) S2 hg.2 w' (by simp at hl ⊢; omega) h2
    refine ⟨ys, S', e7', e8', e9', ?_, h', hw, ?_, ?_, ?_⟩
    · unfold forD
      simp only [tgN_ap]
      have hset : ([some (.ref l), e1, e2, e3, e4, e5, some (.d (.tuple (A ++ B ++ C))), e7, e8, e9, e10] : DL.Env).set 7 (some (.d g)) = [some (.ref l), e1, e2, e3, e4, e5, some (.d (.tuple (A ++ B ++ C))), some (.d g), e8, e9, e10] := rfl
      rw [hset, hb]
      exact hf
    · refine hp1.trans ?_
      simp only [(all_app _ _).2.1, idsAll_cons, idsI_g, idsAll_nil, List.append_nil, List.cons_append]
      refine List.Perm.trans (List.Perm.append_left gs ?_) List.perm_middle
      have : (idsAll A ++ (g :: idsAll B)).Perm (g :: (idsAll A ++ idsAll B)) := List.perm_middle
      exact this.append_right _
    · refine hp2.trans ?_
      simp only [(all_app _ _).2.2.2.1, thAll_cons, thI_g, thAll_nil, List.append_nil]
      exact List.Perm.refl _
    · refine hp3.trans ?_
      simp only [(all_app _ _).2.2.1, grAll_cons, grI_g, grAll_nil, List.append_nil, List.cons_append]
      refine List.Perm.trans (List.Perm.append_left gs ?_) List.perm_middle
      have : (grAll A ++ (g :: grAll B)).Perm (g :: (grAll A ++ grAll B)) := List.perm_middle
      exact this.append_right _
theorem drawing {l : Nat} {S : Store} (h : Drw l S) {most : Nat} (hm : most ≤ 90) (flat : Bool) : ∃ ys S', Drawn most flat ys ∧ F__law_drawing [.ref l, .d (.int (most : Nat)), .d (.bool flat)] S = .ok (.d (.tuple ys)) S' ∧ Drw l S' := by
  obtain ⟨x, y, z, S1, hp, e1, h1⟩ := three h
  obtain ⟨k1, S2, hk1, e2, h2⟩ := pick h1 (m := 4) (by omega) (by omega)
  obtain ⟨k2, S3, hk2, e3, h3⟩ := pick h2 (m := most + 1) (by omega) (by omega)
  obtain ⟨k3, S4, hk3, e4, h4⟩ := pick h3 (m := 3) (by omega) (by omega)
  obtain ⟨pn, pd⟩ := perms_names hp
  have e2' : F__law_pick [.ref l, .d (.int 4)] S1 = _ := e2
  have e3' : F__law_pick [.ref l, .d (.int ((most : Int) + 1))] S2 = _ := e3
  have e4' : F__law_pick [.ref l, .d (.int 3)] S3 = _ := e4
  have c1 : DL.cutD [.str x, .str y, .str z] none (some (k1 : Int)) = _ := cut_to (k := k1) (by simp; omega)
  generalize hnm : ([.str x, .str y, .str z] : List PyData).take k1 = nm at c1
  have nmn : nm.all isName = true := by
    rw [← hnm, List.all_eq_true]
    exact fun a ha => List.all_eq_true.mp pn a (List.mem_of_mem_take ha)
  have nmd : nm.Nodup := by rw [← hnm]; exact pd.sublist (List.take_sublist _ _)
  have nml : nm.length ≤ 3 := by rw [← hnm, List.length_take]; simp; omega
  generalize hnu : ((List.range k2).map fun i => PyData.int ((7 * (0 + (i : Nat)) + 3) % 100)) = nu
  have lc1 : ∀ E : Nat → Option EV, lcD (tgN 10) none e__law_drawing_1 [E 0, E 1, E 2, E 3, E 4, E 5, E 6, E 7, E 8, E 9, none] (rngL 0 k2) [] S3 = .ok (.own nu) S3 := fun E => by
    have := lcD_map (t := tgN 10) (elt := e__law_drawing_1) (env := [E 0, E 1, E 2, E 3, E 4, E 5, E 6, E 7, E 8, E 9, none]) (S := S3) (f := fun d => match d with | .int i => .int ((7 * i + 3) % 100) | x => x) (rngL 0 k2) (fun d hd => by
      unfold rngL at hd
      obtain ⟨i, _, rfl⟩ := List.mem_map.mp hd
      refine ⟨_, rfl, ?_⟩
      unfold e__law_drawing_1
      simp) (by unfold rngL; simp; omega)
    rw [this, range_map, ← hnu]
  have nut : nu.all isThing = true := by
    rw [← hnu, List.all_eq_true]
    intro a ha
    obtain ⟨i, _, rfl⟩ := List.mem_map.mp ha
    simp only [isThing, Bool.and_eq_true, decide_eq_true_eq]
    omega
  have nud : nu.Nodup := by rw [← hnu]; exact nums_nodup k2 (by omega)
  have nul : nu.length = k2 := by rw [← hnu]; simp
  have nmt : nm.all isThing = true := by
    rw [List.all_eq_true] at nmn ⊢
    exact fun a ha => name_thing (nmn a ha)
  have both : (nm ++ nu).all isThing = true := by simp [nmt, nut]
  have bothd : (nm ++ nu).Nodup := by
    rw [List.nodup_append]
    refine ⟨nmd, nud, fun a ha b hb e => ?_⟩
    subst e
    have hn := List.all_eq_true.mp nmn a ha
    rw [← hnu] at hb
    obtain ⟨i, _, rfl⟩ := List.mem_map.mp hb
    cases hn
  generalize hgr : (abc.filter fun g => (!(nm.any fun z => PyData.eqv z g)) && !flat) = gr
  have lc2 : ∀ E : Nat → Option EV, lcD (tgN 7) (some c__law_drawing_1) e__law_drawing_2 [E 0, E 1, some (.d (.bool flat)), some (.d (.list nm)), E 4, E 5, E 6, none, E 8, E 9, E 10] abc [] S3 = .ok (.own gr) S3 := fun E => by
    rw [← hgr]
    refine lcD_filter abc (fun d hd => ⟨_, rfl, ?_, ?_⟩) (by simp [abc])
    · have hn : isName d = true := by
        simp only [abc, List.mem_cons, List.not_mem_nil, or_false] at hd
        rcases hd with rfl | rfl | rfl <;> rfl
      have hi : inG true d (.list nm) = _ := inG_list (id_shaped (thing_id (name_thing hn))) (lids_shaped nmt)
      rw [if_pos rfl] at hi
      unfold c__law_drawing_1
      cases hq : (nm.any fun z => PyData.eqv z d) <;> simp [hi, hq]
    · unfold e__law_drawing_2
      simp
  have grn : gr.all isName = true := by
    rw [← hgr, List.all_eq_true]
    intro a ha
    have := (List.mem_filter.mp ha).1
    simp only [abc, List.mem_cons, List.not_mem_nil, or_false] at this
    rcases this with rfl | rfl | rfl <;> rfl
  have grd : gr.Nodup := by
    rw [← hgr]
    exact List.Nodup.sublist List.filter_sublist (by simp [abc]; decide +kernel)
  have grx : ∀ a, a ∈ gr → a ∉ nm := fun a ha hm => by
    rw [← hgr] at ha
    have h1 := (List.mem_filter.mp ha).2
    simp only [Bool.and_eq_true, Bool.not_eq_true'] at h1
    have := (any_eqv (thing_key (name_thing (List.all_eq_true.mp nmn a hm))) (key_names nmn)).mpr hm
    rw [h1.1] at this
    cases this
  have c2 : DL.cutD gr none (some (k3 : Int)) = gr.take k3 := by
    unfold DL.cutD
    rw [HT.sIx_nat, HT.sIx_none]
    simp only [Nat.sub_zero, List.drop_zero]
    by_cases hh : k3 ≤ gr.length
    · rw [Nat.min_eq_left hh]
    · rw [Nat.min_eq_right (by omega), List.take_of_length_le (Nat.le_refl _), List.take_of_length_le (by omega)]
  generalize hgs : gr.take k3 = gs at c2
  have gsn : gs.all isName = true := by
    rw [← hgs, List.all_eq_true]
    exact fun a ha => List.all_eq_true.mp grn a (List.mem_of_mem_take ha)
  have gsd : gs.Nodup := by rw [← hgs]; exact grd.sublist (List.take_sublist _ _)
  have gsl : gs.length ≤ 2 := by rw [← hgs, List.length_take]; omega
  have gsx : ∀ a, a ∈ gs → a ∉ nm := fun a ha => grx a (by rw [← hgs] at ha; exact List.mem_of_mem_take ha)
  obtain ⟨zs, S5, zp, e5, h5⟩ := mixed h4 both (by simp; omega)
  have zt : zs.all isThing = true := by
    rw [List.all_eq_true] at both ⊢
    exact fun a ha => both a (zp.mem_iff.mp ha)
  obtain ⟨zw, zi, zg, zth, zc⟩ := things_wf zt
  have zl := zp.length_eq
  rw [List.length_append] at zl
  obtain ⟨ys, S6, e7', e8', e9', hf, h6, yw, yi, yt, yg⟩ := drawing_loop (e1 := some (.d (.int (most : Nat)))) (e2 := some (.d (.bool flat))) (e3 := some (.d (.list nm))) (e4 := some (.d (.list nu))) (e5 := some (.d (.list gs))) (e10 := none) gs zs none none none S5 gsn zw (by omega) h5
  refine ⟨ys, S6, ⟨yw, ?_, ?_, ?_, fun hfl => ?_⟩, ?_, h6⟩
  · rw [yi.nodup_iff, zi, List.nodup_append]
    refine ⟨gsd, zp.nodup_iff.mpr bothd, fun a ha b hb e => ?_⟩
    subst e
    have hm := zp.mem_iff.mp hb
    rcases List.mem_append.mp hm with q | q
    · exact gsx a ha q
    · have hn := List.all_eq_true.mp gsn a ha
      rw [← hnu] at q
      obtain ⟨i, _, rfl⟩ := List.mem_map.mp q
      cases hn
  · have := yt.length_eq
    rw [zth] at this
    omega
  · have := yg.length_eq
    rw [zg, List.append_nil] at this
    omega
  · have := yg
    rw [zg, List.append_nil] at this
    have hg0 : gs = [] := by
      rw [← hgs, ← hgr, hfl]
      simp
    rw [hg0] at this
    exact List.Perm.eq_nil this
  · show endF (g__law_drawing [some (.ref l), some (.d (.int (most : Nat))), some (.d (.bool flat)), none, none, none, none, none, none, none, none] S) = _
    have l1 := fun a b c d e f g h i j => lc1 (fun n => match n with | 0 => a | 1 => b | 2 => c | 3 => d | 4 => e | 5 => f | 6 => g | 7 => h | 8 => i | _ => j)
    have l2 := fun a b e f g i j k => lc2 (fun n => match n with | 0 => a | 1 => b | 4 => e | 5 => f | 6 => g | 8 => i | 9 => j | _ => k)
    simp only at l1 l2
    unfold g__law_drawing
    simp [e1, e2', c1, e3', l1, abc_items, l2, e4', c2, addG_list (show nm.length + nu.length ≤ 100000 by omega), e5, hf, rngK_nat (show k2 ≤ 100000 by omega)]
end P

set_option Elab.async false
set_option linter.all false
set_option maxRecDepth 100000
set_option maxHeartbeats 4000000
/-! P7: drawn scripts, odd values. -/
namespace P
open PySem PySem.Spec PyProof.Rows L2 DL U

open Classical in
theorem cmd_mk {s : Str} {r : List PyData} (h : r.all isName = true) (nd : r.Nodup) (hk : kind s = r.length) (h0 : r.length ≠ 0) : cmdD (.tuple (.str s :: r)) = true := by
  unfold cmdD
  exact decide_eq_true ⟨h, nd, hk, h0⟩
theorem perms_three {x y z : Str} (h : (x, y, z) ∈ perms3) : ([.str x] : List PyData).all isName = true ∧ ([.str x] : List PyData).Nodup ∧ ([.str x, .str y] : List PyData).all isName = true ∧ ([.str x, .str y] : List PyData).Nodup ∧ ([.str x, .str y, .str z] : List PyData).all isName = true ∧ ([.str x, .str y, .str z] : List PyData).Nodup := by
  obtain ⟨a, b⟩ := perms_names h
  simp only [List.all_cons, List.all_nil, Bool.and_true, Bool.and_eq_true] at a ⊢
  refine ⟨a.1, by simp, ⟨a.1, a.2.1⟩, b.sublist (by simp), ⟨a.1, a.2.1, a.2.2⟩, b⟩
theorem command {l : Nat} {S : Store} (h : Drw l S) : ∃ c S', cmdD c = true ∧ F__law_command [.ref l] S = .ok (.d c) S' ∧ Drw l S' := by
  obtain ⟨x, y, z, S1, hp, e1, h1⟩ := three h
  obtain ⟨n, S2, hn, e2, h2⟩ := pick h1 (m := 12) (by omega) (by omega)
  obtain ⟨p1, p2, p3, p4, p5, p6⟩ := perms_three hp
  have e2' : F__law_pick [.ref l, .d (.int 12)] S1 = _ := e2
  have go : ∀ c, (g__law_command [some (.ref l), none, none, none, none] S = .ret (.d c) S2) → cmdD c = true → ∃ c S', cmdD c = true ∧ F__law_command [.ref l] S = .ok (.d c) S' ∧ Drw l S' := fun c e hc => by
    refine ⟨c, S2, hc, ?_, h2⟩
    show endF (g__law_command [some (.ref l), none, none, none, none] S) = _
    rw [e]
    rfl
  by_cases a : n < 6
  · have hw : ∃ w, ([.str "front", .str "back", .str "up", .str "down", .str "up", .str "ungroup"] : List PyData)[n]? = some (.str w) ∧ kind w = 1 := by
      have : n = 0 ∨ n = 1 ∨ n = 2 ∨ n = 3 ∨ n = 4 ∨ n = 5 := by omega
      rcases this with rfl | rfl | rfl | rfl | rfl | rfl <;> exact ⟨_, rfl, by decide +kernel⟩
    obtain ⟨w, hw1, hw2⟩ := hw
    have hat : atI ([.str "front", .str "back", .str "up", .str "down", .str "up", .str "ungroup"] : List PyData) (n : Int) = some (.str w) := by
      unfold atI
      rw [ixN_nat (by simp; omega)]
      exact hw1
    refine go (.tuple [.str w, .str x]) ?_ (cmd_mk p1 p2 hw2 (by simp))
    unfold g__law_command
    simp [e1, e2', hat, show (n : Int) < 6 by omega]
  · by_cases b : n < 9
    · have hw : ∃ w, ([.str "above", .str "below", .str "above"] : List PyData)[n - 6]? = some (.str w) ∧ kind w = 2 := by
        have : n = 6 ∨ n = 7 ∨ n = 8 := by omega
        rcases this with rfl | rfl | rfl <;> exact ⟨_, rfl, by decide +kernel⟩
      obtain ⟨w, hw1, hw2⟩ := hw
      have hat : atI ([.str "above", .str "below", .str "above"] : List PyData) ((n : Int) - 6) = some (.str w) := by
        have e : (n : Int) - 6 = ((n - 6 : Nat) : Int) := by omega
        rw [e]
        unfold atI
        rw [ixN_nat (by simp; omega)]
        exact hw1
      refine go (.tuple [.str w, .str x, .str y]) ?_ (cmd_mk p3 p4 hw2 (by simp))
      unfold g__law_command
      simp [e1, e2', hat, show ¬ (n : Int) < 6 by omega, show (n : Int) < 9 by omega]
    · refine go (.tuple [.str "group", .str x, .str y, .str z]) ?_ (cmd_mk p5 p6 (show kind "group" = 3 by decide +kernel) (by simp))
      unfold g__law_command
      simp [e1, e2', show ¬ (n : Int) < 6 by omega, show ¬ (n : Int) < 9 by omega]
/-- a comprehension whose elements are drawn -/
theorem lc_drawn {l n : Nat} {is : Nat} {elt : DE} {env : DL.Env} {p : PyData → Prop} (hel : ∀ (d : PyData) (S : Store), Drw l S → ∃ v y S', elt (env.set is (some (.d d))) S = .ok v S' ∧ v.fixed = some (.d y) ∧ p y ∧ Drw l S') : ∀ (xs acc : List PyData) (S : Store), Drw l S → (∀ y, y ∈ acc → p y) → acc.length + xs.length ≤ 1000 →
    ∃ ys S', lcD (tgN is) none elt env xs acc S = .ok (.own ys) S' ∧ (∀ y, y ∈ ys → p y) ∧ ys.length = acc.length + xs.length ∧ Drw l S'
  | [], acc, S, h, ha, _ => ⟨acc, S, rfl, ha, rfl, h⟩
  | d :: xs, acc, S, h, ha, hl => by
    rw [List.length_cons] at hl
    obtain ⟨v, y, S1, e1, e2, e3, h1⟩ := hel d S h
    obtain ⟨ys, S', e4, e5, e6, h2⟩ := lc_drawn (n := n) hel xs (acc ++ [y]) S1 h1 (fun z hz => by
      rcases List.mem_append.mp hz with q | q
      · exact ha z q
      · simp at q; rw [q]; exact e3) (by simp; omega)
    refine ⟨ys, S', ?_, e5, by rw [e6]; simp; omega, h2⟩
    unfold lcD
    simp only [tgN_ap, tstD_none, bE_d, e1, e2]
    rw [if_pos (by unfold LIM; omega)]
    exact e4
theorem rngL_len {lo : Int} {n : Nat} : (rngL lo n).length = n := by unfold rngL; simp
theorem script {l : Nat} {S : Store} (h : Drw l S) {most : Nat} (hm : most ≤ 100) : ∃ cs S', (∀ c, c ∈ cs → cmdD c = true) ∧ cs.length ≤ most ∧ F__law_script [.ref l, .d (.int (most : Nat))] S = .ok (.d (.tuple cs)) S' ∧ Drw l S' := by
  obtain ⟨n, S1, hn, e1, h1⟩ := pick h (m := most + 1) (by omega) (by omega)
  have e1' : F__law_pick [.ref l, .d (.int ((most : Int) + 1))] S = _ := e1
  obtain ⟨cs, S2, e2, a, b, h2⟩ := lc_drawn (l := l) (n := n) (is := 2) (elt := e__law_script_1) (env := [some (.ref l), some (.d (.int (most : Nat))), none]) (p := fun c => cmdD c = true) (fun d S h => by
    obtain ⟨c, S', q, e, h'⟩ := command h
    exact ⟨.d c, c, S', by unfold e__law_script_1; simp [e], rfl, q, h'⟩) (rngL 0 n) [] S1 h1 (by simp) (by rw [rngL_len]; simp; omega)
  rw [rngL_len] at b
  refine ⟨cs, S2, a, by simp at b; omega, ?_, h2⟩
  show endF (g__law_script [some (.ref l), some (.d (.int (most : Nat))), none] S) = _
  unfold g__law_script
  simp [e1', rngK_nat (show n ≤ 100000 by omega), e2]
/-! ### odd values -/
/-- no dict, so large, so deep -/
structure Lim (c d : Nat) (v : PyData) : Prop where
  lay : v.canLay0 = true
  cn : cnI v ≤ c
  dp : v.depth ≤ d
theorem Lim.mono {c d c' d' : Nat} {v : PyData} (h : Lim c d v) (h1 : c ≤ c') (h2 : d ≤ d') : Lim c' d' v := ⟨h.lay, Nat.le_trans h.cn h1, Nat.le_trans h.dp h2⟩
structure LimA (c d : Nat) (xs : List PyData) : Prop where
  lay : PyData.canLayAll0 xs = true
  cn : cnAll xs ≤ c
  dp : PyData.depthAll xs ≤ d
theorem LimA.tup {c d : Nat} {xs : List PyData} (h : LimA c d xs) : Lim c (d + 1) (.tuple xs) := ⟨by simp only [PyData.canLay0]; exact h.lay, by rw [cnI_tup]; exact h.cn, by simp only [PyData.depth]; have := h.dp; omega⟩
theorem LimA.lst {c d : Nat} {xs : List PyData} (h : LimA c d xs) : Lim c (d + 1) (.list xs) := ⟨by simp only [PyData.canLay0]; exact h.lay, by rw [cnI_lst]; exact h.cn, by simp only [PyData.depth]; have := h.dp; omega⟩
theorem Lim.untup {c d : Nat} {xs : List PyData} (h : Lim c d (.tuple xs)) : LimA c (d - 1) xs ∧ 1 ≤ d := by
  obtain ⟨a, b, e⟩ := h
  simp only [PyData.canLay0] at a
  rw [cnI_tup] at b
  simp only [PyData.depth] at e
  exact ⟨⟨a, b, by omega⟩, by omega⟩
theorem canLay_app (xs ys : List PyData) : PyData.canLayAll0 (xs ++ ys) = (PyData.canLayAll0 xs && PyData.canLayAll0 ys) := by
  induction xs with
  | nil => simp [PyData.canLayAll0]
  | cons x xs ih => simp [PyData.canLayAll0, ih, Bool.and_assoc]
theorem LimA.app {c c' d : Nat} {xs ys : List PyData} (h : LimA c d xs) (h2 : LimA c' d ys) : LimA (c + c') d (xs ++ ys) := by
  obtain ⟨_, _, _, _, q1, q2⟩ := all_app xs ys
  exact ⟨by rw [canLay_app, h.lay, h2.lay]; rfl, by rw [q1]; have := h.cn; have := h2.cn; omega, by rw [q2]; exact Nat.max_le.mpr ⟨h.dp, h2.dp⟩⟩
theorem LimA.parts {c d : Nat} {xs ys : List PyData} (h : LimA c d (xs ++ ys)) : LimA c d xs ∧ LimA c d ys ∧ cnAll xs + cnAll ys ≤ c := by
  obtain ⟨_, _, _, _, q1, q2⟩ := all_app xs ys
  obtain ⟨a, b, e⟩ := h
  rw [canLay_app, Bool.and_eq_true] at a
  rw [q1] at b
  rw [q2, Nat.max_le] at e
  exact ⟨⟨a.1, by omega, e.1⟩, ⟨a.2, by omega, e.2⟩, b⟩
theorem LimA.one {c d : Nat} {x : PyData} (h : Lim c d x) : LimA (c + 1) d [x] := ⟨by simp [PyData.canLayAll0, h.lay], by simp; exact h.cn, by simp only [PyData.depthAll]; have := h.dp; omega⟩
theorem LimA.mono {c d c' d' : Nat} {xs : List PyData} (h : LimA c d xs) (h1 : c ≤ c') (h2 : d ≤ d') : LimA c' d' xs := ⟨h.lay, Nat.le_trans h.cn h1, Nat.le_trans h.dp h2⟩
theorem LimA.all {c d : Nat} : ∀ {xs : List PyData}, (∀ x, x ∈ xs → Lim c d x) → LimA ((c + 1) * xs.length) d xs
  | [], _ => ⟨by simp [PyData.canLayAll0], by simp, by simp [PyData.depthAll]⟩
  | x :: xs, h => by
    have := (LimA.one (h x List.mem_cons_self)).app (LimA.all fun y hy => h y (List.mem_cons_of_mem _ hy))
    refine this.mono ?_ (Nat.le_refl _)
    rw [List.length_cons, Nat.mul_succ]
    omega
theorem LimA.mem {c d : Nat} {xs : List PyData} (h : LimA c d xs) {x : PyData} (hx : x ∈ xs) : Lim c d x ∧ cnI x + 1 ≤ c := by
  obtain ⟨a, b⟩ := lay_mem hx
  have := cn_mem hx
  have := h.cn
  have := h.dp
  exact ⟨⟨a h.lay, by omega, by omega⟩, by omega⟩
theorem lim_of {c d : Nat} {v : PyData} (h : v.canLay0 = true) (h2 : decide (cnI v ≤ c) = true) (h3 : decide (v.depth ≤ d) = true) : Lim c d v := ⟨h, of_decide_eq_true h2, of_decide_eq_true h3⟩
def plain : List PyData := [.none, .bool true, .bool false, .int 0, .int 1, .int 5, .int 100, .int (-2), .int 1000000000000, .str "", .str "a", .str "ab", .str "d", .str "front", .str "A", .str "z z", .tuple [], .list [], .tuple [.str "a"]]
theorem plain_lim : ∀ x, x ∈ plain → Lim 1 1 x := by
  have : ∀ x, x ∈ plain → (x.canLay0 && (decide (cnI x ≤ 1) && decide (x.depth ≤ 1))) = true := by
    rw [← List.all_eq_true]
    decide +kernel
  intro x hx
  have := this x hx
  simp only [Bool.and_eq_true] at this
  exact lim_of this.1 this.2.1 this.2.2
def anyC : Nat → Nat
  | 0 => 1
  | d + 1 => (anyC d + 1) * 4
theorem any_value {l : Nat} : ∀ (f d : Nat) (S : Store), d < f → d ≤ 3 → Drw l S → ∃ v S', Lim (anyC d) (d + 1) v ∧ F__law_any_value f [.ref l, .d (.int (d : Nat))] S = .ok (.d v) S' ∧ Drw l S'
  | 0, d, S, h, _, _ => by omega
  | f + 1, d, S, hf, hd, h => by
    obtain ⟨n, S1, hn, e1, h1⟩ := pick h (m := 8) (by omega) (by omega)
    have e1' : F__law_pick [.ref l, .d (.int 8)] S = _ := e1
    have ac : 1 ≤ anyC d := by
      cases d with
      | zero => exact Nat.le_refl _
      | succ d => unfold anyC; omega
    by_cases hc : d < 1 ∨ n < 5
    · obtain ⟨v, S2, hv, e2, h2⟩ := chosen h1 (xs := plain) (by simp [plain]) (by simp [plain])
      refine ⟨v, S2, (plain_lim v hv).mono ac (by omega), ?_, h2⟩
      show endF (g__law_any_value (F__law_any_value f) [some (.ref l), some (.d (.int (d : Nat))), none, none, none, none] S) = _
      unfold plain at e2
      unfold g__law_any_value
      rcases hc with hc | hc
      · have : d = 0 := by omega
        subst this
        simp [e1', e2]
      · simp [e1', e2, show (n : Int) < 5 by omega]
    · obtain ⟨k, S2, hk, e2, h2⟩ := pick h1 (m := 5) (by omega) (by omega)
      have e2' : F__law_pick [.ref l, .d (.int 5)] S1 = _ := e2
      cases d with
      | zero => omega
      | succ d =>
        obtain ⟨ys, S3, e3, q1, q2, h3⟩ := lc_drawn (l := l) (n := k) (is := 5) (elt := e__law_any_value_1 (F__law_any_value f)) (env := [some (.ref l), some (.d (.int ((d + 1 : Nat) : Int))), some (.d (.list plain)), some (.d (.int (n : Nat))), none, none]) (p := fun v => Lim (anyC d) (d + 1) v) (fun x S h => by
          obtain ⟨v, S', q, e, h'⟩ := any_value f d S (by omega) (by omega) h
          refine ⟨.d v, v, S', ?_, rfl, q, h'⟩
          unfold e__law_any_value_1
          simp [e]) (rngL 0 k) [] S2 h2 (by simp) (by rw [rngL_len]; simp; omega)
        rw [rngL_len] at q2
        have la := LimA.all q1
        have lb : LimA ((anyC d + 1) * 4) (d + 1) ys := la.mono (Nat.mul_le_mul_left _ (by simp at q2; omega)) (Nat.le_refl _)
        unfold plain at e3
        simp only [Int.natCast_add, Int.cast_ofNat_Int] at e3
        have z1 : ¬ (d : Int) + 1 < 1 := by omega
        have z2 : ¬ (n : Int) < 5 := by omega
        have z3 := rngK_nat (S := S2) (show k ≤ 100000 by omega)
        cases h5 : ((n : Int) == 5) with
        | true =>
          refine ⟨.list ys, S3, lb.lst, ?_, h3⟩
          show endF (g__law_any_value (F__law_any_value f) [some (.ref l), some (.d (.int ((d + 1 : Nat) : Int))), none, none, none, none] S) = _
          unfold g__law_any_value
          simp [e1', e2', z1, z2, z3, e3, h5]
          try simp [e2', z3, e3, h5]
        | false =>
          refine ⟨.tuple ys, S3, lb.tup, ?_, h3⟩
          show endF (g__law_any_value (F__law_any_value f) [some (.ref l), some (.d (.int ((d + 1 : Nat) : Int))), none, none, none, none] S) = _
          unfold g__law_any_value
          simp [e1', e2', z1, z2, z3, e3, h5]
          try simp [e2', z3, e3, h5]
end P

set_option Elab.async false
set_option linter.all false
set_option maxRecDepth 100000
set_option maxHeartbeats 4000000
/-! P8: values that are a little wrong. -/
namespace P
open PySem PySem.Spec PyProof.Rows L2 DL U

theorem LimA.take {c d : Nat} {xs : List PyData} (h : LimA c d xs) (n : Nat) : LimA c d (xs.take n) := by
  rw [← List.take_append_drop n xs] at h
  exact h.parts.1
theorem LimA.drop {c d : Nat} {xs : List PyData} (h : LimA c d xs) (n : Nat) : LimA c d (xs.drop n) := by
  rw [← List.take_append_drop n xs] at h
  exact h.parts.2.1
theorem LimA.rev {c d : Nat} : ∀ {xs : List PyData}, LimA c d xs → LimA c d xs.reverse
  | [], h => h
  | x :: xs, h => by
    obtain ⟨p, q, r⟩ := LimA.parts (xs := [x]) (ys := xs) h
    have a : LimA (cnAll xs) d xs := ⟨q.lay, Nat.le_refl _, q.dp⟩
    have b : LimA (cnAll [x]) d [x] := ⟨p.lay, Nat.le_refl _, p.dp⟩
    rw [List.reverse_cons]
    exact (a.rev.app b).mono (by omega) (Nat.le_refl _)
theorem cut_lim {c d : Nat} {xs : List PyData} (h : LimA c d xs) (lo hi : Option Int) : LimA c d (DL.cutD xs lo hi) := (h.drop _).take _
@[simp] theorem revG_list {xs : List PyData} : revG (.list xs) = some (.own xs.reverse) := rfl
def near : List PyData := [.str "a", .str "b", .str "c", .str "d", .str "front", .str "up", .str "above", .str "group", .str "ungroup", .tuple [.str "a", .tuple []], .tuple [.str "b", .tuple [.int 7, .int 8]], .tuple [.str "c", .tuple [.int 9]], .none, .int 0, .int 1, .int 2, .int 99, .int 100, .tuple [], .list []]
theorem near_lim : ∀ x, x ∈ near → Lim 36 3 x := by
  have : ∀ x, x ∈ near → (x.canLay0 && (decide (cnI x ≤ 36) && decide (x.depth ≤ 3))) = true := by
    rw [← List.all_eq_true]
    decide +kernel
  intro x hx
  have := this x hx
  simp only [Bool.and_eq_true] at this
  exact lim_of this.1 this.2.1 this.2.2
theorem put_own {env : DL.Env} {i : Nat} {d : PyData} {k : Int} {S : Store} {xs : List PyData} {j : Nat} (h : env[i]? = some (some (.own xs))) (h3 : ixN xs.length k = some j) : putI env S i k d = .next (env.set i (some (.own (xs.set j d)))) S := by
  unfold putI
  simp only [h, h3]
theorem set_lim {c c' d : Nat} {xs : List PyData} (h : LimA c d xs) {v : PyData} (hv : Lim c' d v) (k : Nat) : LimA (c + c' + 1) d (xs.set k v) := by
  by_cases hk : k < xs.length
  · rw [List.set_eq_take_append_cons_drop, if_pos hk]
    have e : xs = xs.take k ++ xs.drop k := (List.take_append_drop k xs).symm
    have e2 : xs.drop k = xs[k] :: xs.drop (k + 1) := List.drop_eq_getElem_cons hk
    rw [e2] at e
    have h2 := h
    rw [e] at h2
    obtain ⟨p, q, r⟩ := h2.parts
    obtain ⟨p2, q2, r2⟩ := LimA.parts (xs := [xs[k]]) q
    have a : LimA (cnAll (xs.take k)) d (xs.take k) := ⟨p.lay, Nat.le_refl _, p.dp⟩
    have b : LimA (cnAll (xs.drop (k + 1))) d (xs.drop (k + 1)) := ⟨q2.lay, Nat.le_refl _, q2.dp⟩
    have := (a.app ((LimA.one hv).app b))
    refine this.mono ?_ (Nat.le_refl _)
    rw [cnAll_cons] at r
    omega
  · rw [List.set_eq_of_length_le (by omega)]
    exact h.mono (by omega) (Nat.le_refl _)
theorem lim_shapedL {c d : Nat} {xs : List PyData} (h : LimA c d xs) (hd : d ≤ 60) : SeqAt.shaped (.list xs) = true :=
  canLay_shaped (by simp only [PyData.canLay0]; exact h.lay) (by simp only [PyData.depth]; have := h.dp; omega)
theorem variant {l : Nat} : ∀ (f deep : Nat) (c D : Nat) (xs : List PyData) (S : Store), deep < f → c ≤ 10000 → 1 ≤ D → D ≤ 50 → LimA c (D - 1) xs → Drw l S →
    ∃ ev v S', Lim (3 * c + 40) (max D (deep + 4)) v ∧ F__law_variant f [.ref l, .d (.tuple xs), .d (.int (deep : Nat))] S = .ok ev S' ∧ ev.fixed = some (.d v) ∧ Drw l S'
  | 0, deep, c, D, xs, S, h, _, _, _, _, _ => by omega
  | f + 1, deep, c, D, xs, S, hf, hc, hD1, hD, hx, h => by
    have sh := lim_shapedL hx (by omega)
    have xl := cn_len xs
    have xc := hx.cn
    cases xs with
    | nil =>
      obtain ⟨v, S1, hv, e1, h1⟩ := any_value (l := l) 6 1 S (by omega) (by omega) h
      have e1' : F__law_any_value 6 [.ref l, .d (.int 1)] S = _ := e1
      refine ⟨.d (.tuple [v]), .tuple [v], S1, (LimA.one hv).tup.mono (by simp [anyC]) (by omega), ?_, rfl, h1⟩
      show endF (g__law_variant (F__law_variant f) [some (.ref l), some (.d (.tuple [])), some (.d (.int (deep : Nat))), none, none, none, none, none] S) = _
      unfold g__law_variant
      simp [eqG_sh shaped_nilL shaped_nilL, eqv_nilL, e1']
    | cons x0 xr =>
      generalize hxs : x0 :: xr = xs at *
      have hne : xs.isEmpty = false := by rw [← hxs]; rfl
      have hpos : 0 < xs.length := by rw [← hxs]; simp
      obtain ⟨k, S1, hk, e1, h1⟩ := pick h (m := xs.length) hpos (by omega)
      obtain ⟨w, S2, hw, e2, h2⟩ := pick h1 (m := 9) (by omega) (by omega)
      have e2' : F__law_pick [.ref l, .d (.int 9)] S1 = _ := e2
      have ea : atI xs (k : Int) = some xs[k] := atI_nat hk
      obtain ⟨hxk, hxk2⟩ := hx.mem (List.getElem_mem hk)
      have c1 : DL.cutD xs none (some (k : Int)) = _ := cut_to (by omega)
      have c2 : DL.cutD xs (some ((k : Int) + 1)) none = _ := cut_from (k := k + 1) (by omega)
      have c3 : DL.cutD xs none (some ((k : Int) + 1)) = _ := cut_to (k := k + 1) (by omega)
      have c4 : DL.cutD xs (some (k : Int)) none = _ := cut_from (k := k) (by omega)
      have ltk : LimA c (D - 1) (xs.take k) := hx.take _
      have ldk : LimA c (D - 1) (xs.drop (k + 1)) := hx.drop _
      -- what is left behind the first statements
      have start : ∀ r, (seqS (ifS (andE (isiE "tuple" (rdE 6)) (andE (gtE (rdE 2) (cE (.int 0))) (gtE (rdE 5) (cE (.int 2))))) (retS (addE (addE (tupOfE (slE (rdE 3) none (some (rdE 4)))) (tupE [callE (F__law_variant f) (asL [rdE 0, rdE 6, subE (rdE 2) (cE (.int 1))])])) (tupOfE (slE (rdE 3) (some (addE (rdE 4) (cE (.int 1)))) none)))) (nopS)) (seqS (ifS (eqE (rdE 5) (cE (.int 0))) (retS (tupOfE (addE (slE (rdE 3) none (some (rdE 4))) (slE (rdE 3) (some (addE (rdE 4) (cE (.int 1)))) none)))) (nopS)) (seqS (ifS (eqE (rdE 5) (cE (.int 1))) (retS (tupOfE (addE (slE (rdE 3) none (some (addE (rdE 4) (cE (.int 1))))) (slE (rdE 3) (some (rdE 4)) none)))) (nopS)) (seqS (ifS (eqE (rdE 5) (cE (.int 2))) (retS (tupOfE (addE (addE (slE (rdE 3) none (some (rdE 4))) (revE (slE (rdE 3) (some (rdE 4)) (some (addE (rdE 4) (cE (.int 2))))))) (slE (rdE 3) (some (addE (rdE 4) (cE (.int 2)))) none)))) (nopS)) (seqS (ifS (eqE (rdE 5) (cE (.int 3))) (retS (rdE 3)) (nopS)) (seqS (ifS (ltE (rdE 5) (cE (.int 6))) (setS 3 (rdE 4) (callE (F__law_any_value 6) (asL [rdE 0, cE (.int 2)]))) (seqS (asgF 7 (lstE [cE (.str ("a" : Str)), cE (.str ("b" : Str)), cE (.str ("c" : Str)), cE (.str ("d" : Str)), cE (.str ("front" : Str)), cE (.str ("up" : Str)), cE (.str ("above" : Str)), cE (.str ("group" : Str)), cE (.str ("ungroup" : Str)), tupE [cE (.str ("a" : Str)), tupE []], tupE [cE (.str ("b" : Str)), tupE [cE (.int 7), cE (.int 8)]], tupE [cE (.str ("c" : Str)), tupE [cE (.int 9)]]])) (setS 3 (rdE 4) (callE (F__law_chosen) (asL [rdE 0, addE (rdE 7) (lstE [cE .none, cE (.int 0), cE (.int 1), cE (.int 2), cE (.int 99), cE (.int 100), tupE [], lstE []])]))))) (retS (tupOfE (rdE 3)))))))))
          [some (.ref l), some (.d (.tuple xs)), some (.d (.int (deep : Nat))), some (.own xs), some (.d (.int (k : Nat))), some (.d (.int (w : Nat))), some (.d xs[k]), none] S2 = r →
          F__law_variant (f + 1) [.ref l, .d (.tuple xs), .d (.int (deep : Nat))] S = endF r := fun r hr => by
        show endF (g__law_variant (F__law_variant f) [some (.ref l), some (.d (.tuple xs)), some (.d (.int (deep : Nat))), none, none, none, none, none] S) = _
        unfold g__law_variant
        rw [seqS_ap, asgO_ap]
        simp only [RE1_ap, rdE_ap, List.getElem?_cons_succ, List.getElem?_cons_zero, read_d, RE.bind_ok, vUn_ap, view_d, listG_tuple, toRE_some, RE.bindS_ok, kept_own, RS.bind_next, List.set_cons_succ, List.set_cons_zero]
        rw [seqS_ap]
        have s1 : (ifS (eqE (rdE 3) (lstE [])) (retS (tupE [callE (F__law_any_value 6) (asL [rdE 0, cE (.int 1)])])) (nopS)) [some (.ref l), some (.d (.tuple xs)), some (.d (.int (deep : Nat))), some (.own xs), none, none, none, none] S = .next [some (.ref l), some (.d (.tuple xs)), some (.d (.int (deep : Nat))), some (.own xs), none, none, none, none] S := by
          simp [eqG_sh sh shaped_nilL, eqv_nilL, hne]
        rw [s1, RS.bind_next, seqS_ap]
        have s2 : (parO 4 5 (callE (F__law_pick) (asL [rdE 0, lenE (rdE 3)])) (callE (F__law_pick) (asL [rdE 0, cE (.int 9)]))) [some (.ref l), some (.d (.tuple xs)), some (.d (.int (deep : Nat))), some (.own xs), none, none, none, none] S = .next [some (.ref l), some (.d (.tuple xs)), some (.d (.int (deep : Nat))), some (.own xs), some (.d (.int (k : Nat))), some (.d (.int (w : Nat))), none, none] S2 := by
          simp [e1, e2']
        rw [s2, RS.bind_next, seqS_ap]
        have s3 : (asgF 6 (ixE (rdE 3) (rdE 4))) [some (.ref l), some (.d (.tuple xs)), some (.d (.int (deep : Nat))), some (.own xs), some (.d (.int (k : Nat))), some (.d (.int (w : Nat))), none, none] S2 = .next [some (.ref l), some (.d (.tuple xs)), some (.d (.int (deep : Nat))), some (.own xs), some (.d (.int (k : Nat))), some (.d (.int (w : Nat))), some (.d xs[k]), none] S2 := by
          simp [ea]
        rw [s3, RS.bind_next, hr]
      have fin : ∀ (ev : EV) (v : PyData) (S' : Store), Lim (3 * c + 40) (max D (deep + 4)) v → F__law_variant (f + 1) [.ref l, .d (.tuple xs), .d (.int (deep : Nat))] S = .ok ev S' → ev.fixed = some (.d v) → Drw l S' →
        ∃ ev v S', Lim (3 * c + 40) (max D (deep + 4)) v ∧ F__law_variant (f + 1) [.ref l, .d (.tuple xs), .d (.int (deep : Nat))] S = .ok ev S' ∧ ev.fixed = some (.d v) ∧ Drw l S' := fun ev v S' a b c d => ⟨ev, v, S', a, b, c, d⟩
      by_cases hrec : isTup xs[k] = true ∧ 0 < deep ∧ 2 < w
      · obtain ⟨r1, r2, r3⟩ := hrec
        obtain ⟨ys, ey⟩ : ∃ ys, xs[k] = .tuple ys := by
          cases q : xs[k] with
          | tuple ys => exact ⟨ys, rfl⟩
          | _ => rw [q] at r1; cases r1
        cases deep with
        | zero => omega
        | succ deep =>
          rw [ey] at hxk hxk2
          obtain ⟨ly, ly1⟩ := (show Lim (cnI (.tuple ys)) (D - 1) (.tuple ys) from ⟨hxk.lay, Nat.le_refl _, hxk.dp⟩).untup
          obtain ⟨ev, v, S3, hv, e3, e4, h3⟩ := variant f deep (cnI (.tuple ys)) (D - 1) ys S2 (by omega) (by omega) (by omega) (by omega) ly h2
          refine fin (.d (.tuple (xs.take k ++ [v] ++ xs.drop (k + 1)))) (.tuple (xs.take k ++ [v] ++ xs.drop (k + 1))) S3 ?_ ((start _ rfl).trans ?_) rfl h3
          · have e : xs = xs.take k ++ (xs[k] :: xs.drop (k + 1)) := by
              rw [← List.drop_eq_getElem_cons hk, List.take_append_drop]
            have h5 := hx
            rw [e] at h5
            obtain ⟨p, q, r⟩ := h5.parts
            rw [cnAll_cons, ey] at r
            obtain ⟨p2, q2, r2⟩ := LimA.parts (xs := [xs[k]]) q
            have a : LimA (cnAll (xs.take k)) (max (D - 1) (deep + 4)) (xs.take k) := ⟨p.lay, Nat.le_refl _, by have := p.dp; omega⟩
            have b : LimA (cnAll (xs.drop (k + 1))) (max (D - 1) (deep + 4)) (xs.drop (k + 1)) := ⟨q2.lay, Nat.le_refl _, by have := q2.dp; omega⟩
            exact (((a.app (LimA.one hv)).app b).tup).mono (by omega) (by omega)
          · have l1 : (xs.take k).length ≤ 10000 := by rw [List.length_take]; omega
            have l2 : (xs.drop (k + 1)).length ≤ 10000 := by rw [List.length_drop]; omega
            have a1 : addG (.tuple (xs.take k)) (.tuple [v]) = _ := addG_tuple (by simp only [List.length_singleton]; omega)
            have a2 : addG (.tuple (xs.take k ++ [v])) (.tuple (xs.drop (k + 1))) = _ := addG_tuple (by simp only [List.length_singleton, List.length_append]; omega)
            have d1 : ((deep : Int) + 1 - 1) = (deep : Int) := by omega
            have d2 : (0 : Int) < (deep : Int) + 1 := by omega
            have d3 : (2 : Int) < (w : Int) := by omega
            simp only [List.append_assoc] at a2
            simp [ey, d1, d2, d3, c1, c2, e3, e4, a1, a2]
            try simp [ey, d1, d2, d3, c1, c2, e3, e4, a1, a2]
      · have skip : (ifS (andE (isiE "tuple" (rdE 6)) (andE (gtE (rdE 2) (cE (.int 0))) (gtE (rdE 5) (cE (.int 2))))) (retS (addE (addE (tupOfE (slE (rdE 3) none (some (rdE 4)))) (tupE [callE (F__law_variant f) (asL [rdE 0, rdE 6, subE (rdE 2) (cE (.int 1))])])) (tupOfE (slE (rdE 3) (some (addE (rdE 4) (cE (.int 1)))) none)))) (nopS)) [some (.ref l), some (.d (.tuple xs)), some (.d (.int (deep : Nat))), some (.own xs), some (.d (.int (k : Nat))), some (.d (.int (w : Nat))), some (.d xs[k]), none] S2 = .next [some (.ref l), some (.d (.tuple xs)), some (.d (.int (deep : Nat))), some (.own xs), some (.d (.int (k : Nat))), some (.d (.int (w : Nat))), some (.d xs[k]), none] S2 := by
          by_cases t1 : isTup xs[k] = true
          · have t2 : tyD xs[k] = "tuple" := by
              cases q : xs[k] with
              | tuple ys => rfl
              | _ => rw [q] at t1; cases t1
            by_cases t3 : 0 < deep
            · have t4 : ¬ 2 < w := fun z => hrec ⟨t1, t3, z⟩
              simp [t2, t3, show ¬ (2 : Int) < (w : Int) by omega]
            · simp [t2, t3]
          · have t2 : ¬ tyD xs[k] = "tuple" := by
              cases q : xs[k] with
              | tuple ys => rw [q] at t1; exact absurd rfl t1
              | _ => simp
            have t3 : (tyD xs[k] == "tuple") = false := by rw [beq_eq_false_iff_ne]; exact t2
            simp [t2, t3]
        have l1 : (xs.take k).length ≤ 10000 := by rw [List.length_take]; omega
        have l2 : (xs.drop (k + 1)).length ≤ 10000 := by rw [List.length_drop]; omega
        have l3 : (xs.take (k + 1)).length ≤ 10000 := by rw [List.length_take]; omega
        have l4 : (xs.drop k).length ≤ 10000 := by rw [List.length_drop]; omega
        have wc : w = 0 ∨ w = 1 ∨ w = 2 ∨ w = 3 ∨ w = 4 ∨ w = 5 ∨ 6 ≤ w := by omega
        have change : ∀ (v : PyData) (S' : Store), Lim 36 3 v → Lim (3 * c + 40) (max D (deep + 4)) (.tuple (xs.set k v)) := fun v S' hv => by
          have := set_lim (hx.mono (Nat.le_refl c) (show D - 1 ≤ max (D - 1) 3 by omega)) (hv.mono (Nat.le_refl _) (show 3 ≤ max (D - 1) 3 by omega)) k
          exact this.tup.mono (by omega) (by omega)
        have old : w = 4 ∨ w = 5 → ∃ ev v S', Lim (3 * c + 40) (max D (deep + 4)) v ∧ F__law_variant (f + 1) [.ref l, .d (.tuple xs), .d (.int (deep : Nat))] S = .ok ev S' ∧ ev.fixed = some (.d v) ∧ Drw l S' := fun hw => by
          obtain ⟨v, S3, hv, e3, h3⟩ := any_value (l := l) 6 2 S2 (by omega) (by omega) h2
          have e3' : F__law_any_value 6 [.ref l, .d (.int 2)] S2 = _ := e3
          refine fin (.d (.tuple (xs.set k v))) _ S3 (change v S3 (hv.mono (by decide) (by omega))) ((start _ rfl).trans ?_) rfl h3
          have hput := fun env h => put_own (env := env) (i := 3) (d := v) (k := (k : Int)) (S := S3) (xs := xs) (j := k) h (ixN_nat hk)
          have hp2 := hput [some (.ref l), some (.d (.tuple xs)), some (.d (.int (deep : Nat))), some (.own xs), some (.d (.int (k : Nat))), some (.d (.int (w : Nat))), some (.d xs[k]), none] rfl
          rw [seqS_ap, skip, RS.bind_next]
          rcases hw with rfl | rfl
          · simp at hp2
            simp [e3', hp2]
          · simp at hp2
            simp [e3', hp2]
        rcases wc with rfl | rfl | rfl | rfl | rfl | rfl | hw6
        · refine fin (.d (.tuple (xs.take k ++ xs.drop (k + 1)))) _ S2 ((ltk.app ldk).tup.mono (by omega) (by omega)) ((start _ rfl).trans ?_) rfl h2
          rw [seqS_ap, skip, RS.bind_next]
          simp [c1, c2, addG_list (show (xs.take k).length + (xs.drop (k + 1)).length ≤ 100000 by omega)]
        · refine fin (.d (.tuple (xs.take (k + 1) ++ xs.drop k))) _ S2 (((hx.take _).app (hx.drop _)).tup.mono (by omega) (by omega)) ((start _ rfl).trans ?_) rfl h2
          rw [seqS_ap, skip, RS.bind_next]
          simp [c3, c4, addG_list (show (xs.take (k + 1)).length + (xs.drop k).length ≤ 100000 by omega)]
        · have m1 := cut_lim hx (some (k : Int)) (some ((k : Int) + 2))
          have m2 := cut_lim hx (some ((k : Int) + 2)) none
          have m3 := cn_len (DL.cutD xs (some (k : Int)) (some ((k : Int) + 2)))
          have m4 := cn_len (DL.cutD xs (some ((k : Int) + 2)) none)
          have m5 := m1.cn
          have m6 := m2.cn
          have a1 : addG (.list (xs.take k)) (.list (DL.cutD xs (some (k : Int)) (some ((k : Int) + 2))).reverse) = _ := addG_list (by rw [List.length_reverse]; omega)
          have a2 : addG (.list (xs.take k ++ (DL.cutD xs (some (k : Int)) (some ((k : Int) + 2))).reverse)) (.list (DL.cutD xs (some ((k : Int) + 2)) none)) = _ := addG_list (by rw [List.length_append, List.length_reverse]; omega)
          refine fin (.d (.tuple (xs.take k ++ (DL.cutD xs (some (k : Int)) (some ((k : Int) + 2))).reverse ++ DL.cutD xs (some ((k : Int) + 2)) none))) _ S2 (((ltk.app m1.rev).app m2).tup.mono (by omega) (by omega)) ((start _ rfl).trans ?_) rfl h2
          rw [seqS_ap, skip, RS.bind_next]
          simp [c1, a1, a2]
        · refine fin (.own xs) (.list xs) S2 (hx.lst.mono (by omega) (by omega)) ((start _ rfl).trans ?_) rfl h2
          rw [seqS_ap, skip, RS.bind_next]
          simp
        · exact old (.inl rfl)
        · exact old (.inr rfl)
        · obtain ⟨v, S3, hv, e3, h3⟩ := chosen h2 (xs := near) (by simp [near]) (by simp [near])
          refine fin (.d (.tuple (xs.set k v))) _ S3 (change v S3 (near_lim v hv)) ((start _ rfl).trans ?_) rfl h3
          unfold near at e3
          have w0 : ((w : Int) == 0) = false := by rw [beq_eq_false_iff_ne]; omega
          have w1 : ((w : Int) == 1) = false := by rw [beq_eq_false_iff_ne]; omega
          have w2 : ((w : Int) == 2) = false := by rw [beq_eq_false_iff_ne]; omega
          have w3 : ((w : Int) == 3) = false := by rw [beq_eq_false_iff_ne]; omega
          have w6 : ¬ (w : Int) < 6 := by omega
          have hput := fun env h => put_own (env := env) (i := 3) (d := v) (k := (k : Int)) (S := S3) (xs := xs) (j := k) h (ixN_nat hk)
          have hp2 := fun e7 => hput [some (.ref l), some (.d (.tuple xs)), some (.d (.int (deep : Nat))), some (.own xs), some (.d (.int (k : Nat))), some (.d (.int (w : Nat))), some (.d xs[k]), e7] rfl
          rw [seqS_ap, skip, RS.bind_next]
          simp at hp2
          simp [w0, w1, w2, w3, w6, addG_list, e3, hp2]
end P

set_option Elab.async false
set_option linter.all false
set_option maxRecDepth 100000
set_option maxHeartbeats 4000000
/-! P9: the law k01. -/
namespace P
open PySem PySem.Spec PyProof.Rows L2 DL U

theorem written_ok (ns : List Int) : (forS (itE (call0E (F__law_written))) (tgT [1, 2, 3, 4]) (b_law_1)) [some (.scr ns), none, none, none, none, none, none, none, none, none, none, none] [] =
    .next [some (.scr ns), some (.d (.list [.str "up", .str "a"])), some (.d (.bool false)), some (.d (.bool false)), some (.d (.bool false)), none, none, none, none, none, none, none] [] := by
  kernel_rfl
theorem last_ok (env : DL.Env) (S : Store) : (retS (andE (notE (callE (F_is_script) (asL [mulE (tupE [tupE [cE (.str ("up" : Str)), cE (.str ("a" : Str))]]) (cE (.int 5))]))) (callE (F_is_script) (asL [mulE (tupE [tupE [cE (.str ("up" : Str)), cE (.str ("a" : Str))]]) (cE (.int 4))])))) env S = .ret (.d (.bool true)) S := by
  kernel_rfl
theorem flat_th : ∀ {ys : List PyData}, wfAll ys = true → (grAll ys).isEmpty = true → thAll ys = ys
  | [], _, _ => by simp
  | y :: ys, w, h => by
    rw [wfAll_cons, Bool.and_eq_true] at w
    rw [grAll_cons, List.isEmpty_iff, List.append_eq_nil_iff] at h
    rw [thAll_cons, flat_th w.2 (by rw [h.2]; rfl)]
    rcases wf_form w.1 with ⟨m, zs, rfl, hm, hz⟩ | ⟨h1, h2, h3, h4, h5, h6, h7⟩
    · rw [grI_g] at h
      cases h.1
    · rw [h4]
      rfl
theorem check {v : PyData} (h : Fit2 v) (e0 e2 e3 e4 e5 e6 e7 e8 e9 e10 e11 : Option EV) (S : Store) : ∃ e2' e3', b_law_3 [e0, some (.d v), e2, e3, e4, e5, e6, e7, e8, e9, e10, e11] S = .next [e0, some (.d v), e2', e3', e4, e5, e6, e7, e8, e9, e10, e11] S := by
  have q1 := h.good S
  have q2 := drawing_eq v S h.cn
  have q3 := plain_eq v S h.cn
  have q4 := h.toFit.cmd S
  have q5 := h.toFit.lcmd S
  have q6 := h.toFit.script S
  have q7 := h.toFit.lscr S
  cases hg : goodD v with
  | false =>
    rw [hg] at q1 q2 q3
    refine ⟨some (.d (.bool false)), some (.d (.bool false)), ?_⟩
    unfold b_law_3
    simp [q1, q2, q3, q4, q5, q6, q7, lbool_eq]
  | true =>
    rw [hg] at q1 q2 q3
    obtain ⟨ys, rfl, w, nd, hl⟩ := good_parts hg
    have hc := h.cn
    rw [cnI_tup] at hc
    have hd := h.dp
    simp only [PyData.depth] at hd
    obtain ⟨a1, a2, a3, a4, a5, a6, a7⟩ := wf_parts _ (Nat.le_refl (cnAll ys)) w
    have hi := lids_eq S 40 ys (by omega) (by omega)
    rw [a7] at hi
    have dl := wf_dp _ (Nat.le_refl (cnAll ys))
    have ht := lthings_eq S 40 ys w (by omega) (by omega)
    have l1 := a4.length_eq
    rw [List.length_append] at l1
    have hflat : (if ((idsAll ys).length : Int) == (ys.length : Int) then RE.ok (.d (.bool (((thAll ys).length : Int) == (ys.length : Int)))) S else .ok (.d (.bool false)) S) = .ok (.d (.bool (grAll ys).isEmpty)) S := by
      cases hq : (grAll ys).isEmpty with
      | true =>
        have := flat_th w hq
        rw [List.isEmpty_iff] at hq
        rw [hq] at l1
        rw [this] at l1 ⊢
        simp at l1
        simp [l1]
      | false =>
        have : (grAll ys).length ≠ 0 := fun z => by
          rw [List.eq_nil_of_length_eq_zero z] at hq
          cases hq
        by_cases hx : (idsAll ys).length = ys.length
        · have h2 : (((thAll ys).length : Int) == (ys.length : Int)) = false := by
            rw [beq_eq_false_iff_ne]; omega
          simp [hx, h2]
        · have h2 : (((idsAll ys).length : Int) == (ys.length : Int)) = false := by
            rw [beq_eq_false_iff_ne]; omega
          simp [h2]
    refine ⟨some (.d (.bool true)), some (.d (.bool (grAll ys).isEmpty)), ?_⟩
    have q3' : F_is_plain [.d (.tuple ys)] S = .ok (.d (.bool (grAll ys).isEmpty)) S := by
      rw [q3]
      rfl
    have hfl : (andE (rdE 2) (andE (eqE (lenE (callE (F__law_ids 40) (asL [rdE 1]))) (lenE (rdE 1))) (eqE (lenE (callE (F__law_things 40) (asL [rdE 1]))) (lenE (rdE 1))))) [e0, some (.d (.tuple ys)), some (.d (.bool true)), e3, e4, e5, e6, e7, e8, e9, e10, e11] S = .ok (.d (.bool (grAll ys).isEmpty)) S := by
      rw [← hflat]
      simp [hi, ht]
    unfold b_law_3
    rw [seqS_ap, asgF_ap]
    have s1 : callE F__law_good_drawing (asL [rdE 1]) [e0, some (.d (.tuple ys)), e2, e3, e4, e5, e6, e7, e8, e9, e10, e11] S = .ok (.d (.bool true)) S := by simp [q1]
    rw [s1]
    simp only [RE.bindS_ok, fixed_d, RS.bind_next, List.set_cons_succ, List.set_cons_zero]
    rw [seqS_ap, asgF_ap, hfl]
    simp only [RE.bindS_ok, fixed_d, RS.bind_next, List.set_cons_succ, List.set_cons_zero]
    simp [q2, q3', q4, q5, q6, q7, lbool_eq]
theorem fit2 {c d : Nat} {v : PyData} (h : Lim c d v) (hc : c ≤ 4000) (hd : d ≤ 39) : Fit2 v := ⟨⟨canLay_shaped h.lay (by have := h.dp; omega), by have := h.cn; omega⟩, by have := h.dp; omega⟩
theorem Drawn.lim {most : Nat} {flat : Bool} {ys : List PyData} (h : Drawn most flat ys) : LimA (9 + most) 4 ys := by
  obtain ⟨a, b, c, _⟩ := h.meas
  exact ⟨c, a, b⟩
theorem kind_word {s : Str} (h : kind s ≠ 0) : s ∈ ([("front" : Str), "back", "up", "down", "ungroup", "above", "below", "group"] : List Str) := by
  by_cases h1 : ("front" : Str) = s
  · subst h1; simp
  by_cases h2 : ("back" : Str) = s
  · subst h2; simp
  by_cases h3 : ("up" : Str) = s
  · subst h3; simp
  by_cases h4 : ("down" : Str) = s
  · subst h4; simp
  by_cases h5 : ("ungroup" : Str) = s
  · subst h5; simp
  by_cases h6 : ("above" : Str) = s
  · subst h6; simp
  by_cases h7 : ("below" : Str) = s
  · subst h7; simp
  by_cases h8 : ("group" : Str) = s
  · subst h8; simp
  exact absurd (by simp [h1, h2, h3, h4, h5, h6, h7, h8, kind, words1, words2, PyData.eqv]) h
theorem kind_le (s : Str) : kind s ≤ 3 := by
  unfold kind
  split
  · omega
  · split
    · omega
    · split <;> omega
theorem word_lim {s : Str} (h : kind s ≠ 0) : Lim 0 0 (.str s) := by
  have : ∀ s, s ∈ ([("front" : Str), "back", "up", "down", "ungroup", "above", "below", "group"] : List Str) → ((PyData.str s).canLay0 && (decide (cnI (.str s) ≤ 0) && decide ((PyData.str s).depth ≤ 0))) = true := by
    rw [← List.all_eq_true]
    decide +kernel
  have := this s (kind_word h)
  simp only [Bool.and_eq_true] at this
  exact lim_of this.1 this.2.1 this.2.2
theorem name_lim {x : PyData} (h : isName x = true) : Lim 0 0 x := by
  rcases name_cases h with rfl | rfl | rfl <;> exact lim_of (by decide +kernel) (by decide +kernel) (by decide +kernel)
open Classical in
theorem cmd_parts {v : PyData} (h : cmdD v = true) : ∃ s r, v = .tuple (.str s :: r) ∧ r.all isName = true ∧ r.Nodup ∧ kind s = r.length ∧ r.length ≠ 0 := by
  unfold cmdD at h
  split at h
  · exact ⟨_, _, rfl, of_decide_eq_true h⟩
  · cases h
theorem cmd_lim {v : PyData} (h : cmdD v = true) : Lim 4 1 v := by
  obtain ⟨s, r, rfl, h1, h2, h3, h4⟩ := cmd_parts h
  have hk := kind_le s
  have a := LimA.all (c := 0) (d := 0) (xs := .str s :: r) fun x hx => by
    rcases List.mem_cons.mp hx with e | e
    · rw [e]; exact word_lim (by omega)
    · exact name_lim (List.all_eq_true.mp h1 x e)
  exact a.tup.mono (by rw [List.length_cons]; omega) (Nat.le_refl _)
theorem script_lim {cs : List PyData} (h : ∀ c, c ∈ cs → cmdD c = true) (hl : cs.length ≤ 4) : LimA 20 1 cs :=
  (LimA.all fun c hc => cmd_lim (h c hc)).mono (by omega) (Nat.le_refl _)
/-- the values that the law looks at -/
def Seen (v : PyData) : Prop := Lim 400 9 v
theorem values_loop {l : Nat} (hd hs : List PyData) (hD : LimA 21 4 hd) (hS : LimA 20 1 hs) (e0 e1 e2 e3 e4 e5 : Option EV) : ∀ (xs : List PyData) (vals : List PyData) (e10 e11 : Option EV) (S : Store), (∀ x, x ∈ xs → ∃ i : Int, x = .int i) → Drw l S → (∀ v, v ∈ vals → Seen v) → vals.length + 2 * xs.length ≤ 1000 →
    ∃ vals' e10' e11' S', forD (tgN 10) b_law_2 xs [e0, e1, e2, e3, e4, e5, some (.ref l), some (.d (.tuple hd)), some (.d (.tuple hs)), some (.own vals), e10, e11] S = .next [e0, e1, e2, e3, e4, e5, some (.ref l), some (.d (.tuple hd)), some (.d (.tuple hs)), some (.own vals'), e10', e11'] S' ∧
      Drw l S' ∧ (∀ v, v ∈ vals' → Seen v) ∧ vals'.length ≤ 1000
  | [], vals, e10, e11, S, _, h, hv, hl => ⟨vals, e10, e11, S, by simp [forD], h, hv, by simpa using hl⟩
  | x :: xs, vals, e10, e11, S, hx, h, hv, hl => by
    rw [List.length_cons] at hl
    obtain ⟨i, rfl⟩ := hx x List.mem_cons_self
    have app : ∀ (n : Nat), n ≤ 1000 → n < LIM := fun n hn => by unfold LIM; omega
    -- the first
    have first : ∃ ev v S1, Lim 103 8 v ∧ (callE (F__law_variant 6) (asL [rdE 6, ifE (ltE (rdE 10) (cE (.int 9))) (rdE 7) (rdE 8), cE (.int 4)])) [e0, e1, e2, e3, e4, e5, some (.ref l), some (.d (.tuple hd)), some (.d (.tuple hs)), some (.own vals), some (.d (.int i)), e11] S = .ok ev S1 ∧ ev.fixed = some (.d v) ∧ Drw l S1 := by
      by_cases h9 : i < 9
      · obtain ⟨ev, v, S1, a, b, c, d⟩ := variant (l := l) 6 4 21 5 hd S (by omega) (by omega) (by omega) (by omega) hD h
        have b' : F__law_variant 6 [.ref l, .d (.tuple hd), .d (.int 4)] S = _ := b
        exact ⟨ev, v, S1, a, by simp [h9, b'], c, d⟩
      · obtain ⟨ev, v, S1, a, b, c, d⟩ := variant (l := l) 6 4 20 5 hs S (by omega) (by omega) (by omega) (by omega) (hS.mono (Nat.le_refl _) (by omega)) h
        have b' : F__law_variant 6 [.ref l, .d (.tuple hs), .d (.int 4)] S = _ := b
        exact ⟨ev, v, S1, a.mono (by omega) (Nat.le_refl _), by simp [h9, b'], c, d⟩
    obtain ⟨ev, v, S1, q1, q2, q3, q4⟩ := first
    -- the whole turn
    have turn : ∃ more e11' S2, (∀ w, w ∈ more → Seen w) ∧ more.length ≤ 2 ∧ b_law_2 [e0, e1, e2, e3, e4, e5, some (.ref l), some (.d (.tuple hd)), some (.d (.tuple hs)), some (.own vals), some (.d (.int i)), e11] S = .next [e0, e1, e2, e3, e4, e5, some (.ref l), some (.d (.tuple hd)), some (.d (.tuple hs)), some (.own (vals ++ more)), some (.d (.int i)), e11'] S2 ∧ Drw l S2 := by
      have sv : Seen v := q1.mono (by omega) (by omega)
      by_cases ht : isTup v = true
      · obtain ⟨ys, rfl⟩ : ∃ ys, v = .tuple ys := by
          cases v with
          | tuple ys => exact ⟨ys, rfl⟩
          | _ => cases ht
        obtain ⟨n, S2, hn, p1, h2⟩ := pick q4 (m := 3) (by omega) (by omega)
        have p1' : F__law_pick [.ref l, .d (.int 3)] S1 = _ := p1
        cases hz : ((n : Int) == 0) with
        | false =>
          refine ⟨[.tuple ys], some (.d (.tuple ys)), S2, fun w hw => (by simp at hw; rw [hw]; exact sv), by simp, ?_, h2⟩
          unfold b_law_2
          rw [seqS_ap, asgF_ap, q2]
          simp [q3, appS, app vals.length (by omega), p1', hz]
        | true =>
          obtain ⟨ly, _⟩ := q1.untup
          obtain ⟨ev2, v2, S3, a, b, c, d⟩ := variant (l := l) 6 4 103 8 ys S2 (by omega) (by omega) (by omega) (by omega) ly h2
          have b' : F__law_variant 6 [.ref l, .d (.tuple ys), .d (.int 4)] S2 = _ := b
          refine ⟨[.tuple ys, v2], some (.d (.tuple ys)), S3, fun w hw => ?_, by simp, ?_, d⟩
          · simp at hw
            rcases hw with rfl | rfl
            · exact sv
            · exact a.mono (by omega) (by omega)
          · unfold b_law_2
            rw [seqS_ap, asgF_ap, q2]
            simp [q3, appS, app vals.length (by omega), p1', hz]
            simp [appS, b', c, app (vals.length + 1) (by omega)]
      · have t2 : (tyD v == "tuple") = false := by
          cases v with
          | tuple ys => exact absurd rfl ht
          | _ => simp
        refine ⟨[v], some (.d v), S1, fun w hw => (by simp at hw; rw [hw]; exact sv), by simp, ?_, q4⟩
        unfold b_law_2
        rw [seqS_ap, asgF_ap, q2]
        have t3 : ¬ tyD v = "tuple" := fun z => by rw [z] at t2; simp at t2
        simp [q3, appS, app vals.length (by omega), t2, t3]
    obtain ⟨more, e11', S2, m1, m2, m3, m4⟩ := turn
    obtain ⟨vals', e10'', e11'', S', r1, r2, r3, r4⟩ := values_loop hd hs hD hS e0 e1 e2 e3 e4 e5 xs (vals ++ more) (some (.d (.int i))) e11' S2 (fun x hx' => hx x (List.mem_cons_of_mem _ hx')) m4 (fun w hw => by
      rcases List.mem_append.mp hw with z | z
      · exact hv w z
      · exact m1 w z) (by rw [List.length_append]; omega)
    refine ⟨vals', e10'', e11'', S', ?_, r2, r3, r4⟩
    unfold forD
    simp only [tgN_ap, List.set_cons_succ, List.set_cons_zero, m3]
    exact r1
theorem checks {S : Store} (e0 e4 e5 e6 e7 e8 e9 e10 e11 : Option EV) : ∀ (xs : List PyData) (e1 e2 e3 : Option EV), (∀ v, v ∈ xs → Seen v) → ∃ e1' e2' e3', forD (tgN 1) b_law_3 xs [e0, e1, e2, e3, e4, e5, e6, e7, e8, e9, e10, e11] S = .next [e0, e1', e2', e3', e4, e5, e6, e7, e8, e9, e10, e11] S
  | [], e1, e2, e3, _ => ⟨e1, e2, e3, by simp [forD]⟩
  | v :: xs, e1, e2, e3, h => by
    obtain ⟨e2', e3', q⟩ := check (fit2 (h v List.mem_cons_self) (by omega) (by omega)) e0 e2 e3 e4 e5 e6 e7 e8 e9 e10 e11 S
    obtain ⟨a, b, c, r⟩ := checks e0 e4 e5 e6 e7 e8 e9 e10 e11 xs (some (.d v)) e2' e3' fun w hw => h w (List.mem_cons_of_mem _ hw)
    refine ⟨a, b, c, ?_⟩
    unfold forD
    simp only [tgN_ap, List.set_cons_succ, List.set_cons_zero, q]
    exact r
theorem k01_turn (ns : List Int) (k : Nat) (hk : k ≤ 1000) (e1 e2 e3 e4 e6 e7 e8 e9 e10 e11 : Option EV) (S : Store) : ∃ a1 a2 a3 a4 a5 a6 a7 a8 a9 a10 a11 S', b_law_4 [some (.scr ns), e1, e2, e3, e4, some (.d (.int (k : Nat))), e6, e7, e8, e9, e10, e11] S = .next [some (.scr ns), a1, a2, a3, a4, a5, a6, a7, a8, a9, a10, a11] S' := by
  obtain ⟨a, b, q1, q2, q3, q4⟩ := source ns k hk S
  have h0 := drw_new (S := S) q2 q3 q4
  generalize hS0 : (S ++ [Cell.lst [.int a, .int b]] : Store) = S0 at h0
  generalize hl : S.length = l at h0
  obtain ⟨ys, S1, dr, d2, h1⟩ := drawing h0 (most := 12) (by omega) false
  obtain ⟨cs, S2, c1, c2, c3, h2⟩ := script h1 (most := 4) (by omega)
  obtain ⟨v, S3, v1, v2, h3⟩ := any_value (l := l) 6 3 S2 (by omega) (by omega) h2
  have d2' : F__law_drawing [.ref l, .d (.int 12), .d (.bool false)] S0 = _ := d2
  have c3' : F__law_script [.ref l, .d (.int 4)] S1 = _ := c3
  have v2' : F__law_any_value 6 [.ref l, .d (.int 3)] S2 = _ := v2
  have ly := dr.lim
  have lc := script_lim c1 c2
  have yl := cn_len ys
  have yc := ly.cn
  -- the values ahead of the loop
  have la : addG (.tuple ys) (.tuple ys) = _ := addG_tuple (by omega)
  have lb : addG (.list [.tuple ys, .list ys, .tuple cs, .list cs, .tuple (ys ++ ys), .none, .tuple [], .str "a"]) (.list cs) = _ := addG_list (by simp; omega)
  have sv : ∀ w, w ∈ ([.tuple ys, .list ys, .tuple cs, .list cs, .tuple (ys ++ ys), .none, .tuple [], .str "a"] ++ cs ++ [v] : List PyData) → Seen w := fun w hw => by
    have n0 : Seen .none := lim_of (by decide +kernel) (by decide +kernel) (by decide +kernel)
    have n1 : Seen (.tuple []) := lim_of (by decide +kernel) (by decide +kernel) (by decide +kernel)
    have n2 : Seen (.str "a") := lim_of (by decide +kernel) (by decide +kernel) (by decide +kernel)
    rw [List.mem_append, List.mem_append] at hw
    rcases hw with (hw | hw) | hw
    · simp only [List.mem_cons, List.not_mem_nil, or_false] at hw
      rcases hw with rfl | rfl | rfl | rfl | rfl | rfl | rfl | rfl
      · exact ly.tup.mono (by omega) (by omega)
      · exact ly.lst.mono (by omega) (by omega)
      · exact lc.tup.mono (by omega) (by omega)
      · exact lc.lst.mono (by omega) (by omega)
      · exact (ly.app ly).tup.mono (by omega) (by omega)
      · exact n0
      · exact n1
      · exact n2
    · exact (cmd_lim (c1 w hw)).mono (by omega) (by omega)
    · simp at hw
      rw [hw]
      exact v1.mono (by simp [anyC]) (by omega)
  obtain ⟨vals, e10', e11', S4, r1, r2, r3, r4⟩ := values_loop (l := l) ys cs ly lc (some (.scr ns)) e1 e2 e3 e4 (some (.d (.int (k : Nat)))) (rngL 0 16) _ e10 e11 S3 (fun x hx => by
    unfold rngL at hx
    obtain ⟨i, _, rfl⟩ := List.mem_map.mp hx
    exact ⟨_, rfl⟩) h3 sv (by rw [rngL_len]; simp; omega)
  obtain ⟨e1', e2', e3', t⟩ := checks (S := S4) (some (.scr ns)) e4 (some (.d (.int (k : Nat)))) (some (.ref l)) (some (.d (.tuple ys))) (some (.d (.tuple cs))) (some (.d (.list vals))) e10' e11' vals e1 e2 e3 r3
  refine ⟨e1', e2', e3', e4, some (.d (.int (k : Nat))), some (.ref l), some (.d (.tuple ys)), some (.d (.tuple cs)), some (.d (.list vals)), e10', e11', S4, ?_⟩
  · unfold b_law_4
    have s1 : (asgF 6 (refE (callE (F__law_source) (asL [rdE 0, rdE 5])))) [some (.scr ns), e1, e2, e3, e4, some (.d (.int (k : Nat))), e6, e7, e8, e9, e10, e11] S = .next [some (.scr ns), e1, e2, e3, e4, some (.d (.int (k : Nat))), some (.ref l), e7, e8, e9, e10, e11] S0 := by
      simp [q1, hS0, hl]
    have s2 : (parO 7 8 (callE (F__law_drawing) (asL [rdE 6, cE (.int 12), cE (.bool false)])) (callE (F__law_script) (asL [rdE 6, cE (.int 4)]))) [some (.scr ns), e1, e2, e3, e4, some (.d (.int (k : Nat))), some (.ref l), e7, e8, e9, e10, e11] S0 = .next [some (.scr ns), e1, e2, e3, e4, some (.d (.int (k : Nat))), some (.ref l), some (.d (.tuple ys)), some (.d (.tuple cs)), e9, e10, e11] S2 := by
      simp [d2', c3']
    have s3 : (asgO 9 (addE (lstE [rdE 7, listOfE (rdE 7), rdE 8, listOfE (rdE 8), addE (rdE 7) (rdE 7), cE .none, tupE [], cE (.str ("a" : Str))]) (listOfE (rdE 8)))) [some (.scr ns), e1, e2, e3, e4, some (.d (.int (k : Nat))), some (.ref l), some (.d (.tuple ys)), some (.d (.tuple cs)), e9, e10, e11] S2 = .next [some (.scr ns), e1, e2, e3, e4, some (.d (.int (k : Nat))), some (.ref l), some (.d (.tuple ys)), some (.d (.tuple cs)), some (.own ([.tuple ys, .list ys, .tuple cs, .list cs, .tuple (ys ++ ys), .none, .tuple [], .str "a"] ++ cs)), e10, e11] S2 := by
      simp at lb
      simp [la, lb]
    have s4 : (appS 9 (callE (F__law_any_value 6) (asL [rdE 6, cE (.int 3)]))) [some (.scr ns), e1, e2, e3, e4, some (.d (.int (k : Nat))), some (.ref l), some (.d (.tuple ys)), some (.d (.tuple cs)), some (.own ([.tuple ys, .list ys, .tuple cs, .list cs, .tuple (ys ++ ys), .none, .tuple [], .str "a"] ++ cs)), e10, e11] S2 = .next [some (.scr ns), e1, e2, e3, e4, some (.d (.int (k : Nat))), some (.ref l), some (.d (.tuple ys)), some (.d (.tuple cs)), some (.own ([.tuple ys, .list ys, .tuple cs, .list cs, .tuple (ys ++ ys), .none, .tuple [], .str "a"] ++ cs ++ [v])), e10, e11] S3 := by
      unfold appS
      simp [v2']
      unfold LIM
      omega
    have s5 : (forS (rng1 (cE (.int 16))) (tgN 10) (b_law_2)) [some (.scr ns), e1, e2, e3, e4, some (.d (.int (k : Nat))), some (.ref l), some (.d (.tuple ys)), some (.d (.tuple cs)), some (.own ([.tuple ys, .list ys, .tuple cs, .list cs, .tuple (ys ++ ys), .none, .tuple [], .str "a"] ++ cs ++ [v])), e10, e11] S3 = .next [some (.scr ns), e1, e2, e3, e4, some (.d (.int (k : Nat))), some (.ref l), some (.d (.tuple ys)), some (.d (.tuple cs)), some (.own vals), e10', e11'] S4 := by
      have : rngK (.d (.int 16)) S3 = _ := rngK_nat (k := 16) (by omega)
      rw [forS_ap, rng1_ap, cE_ap, RE.bind_ok, this, RE.bindS_ok]
      exact r1
    rw [seqS_ap, s1, RS.bind_next, seqS_ap, s2, RS.bind_next, seqS_ap, s3, RS.bind_next, seqS_ap, s4, RS.bind_next, seqS_ap, s5, RS.bind_next]
    have s6 : (frzS 9 (forS (itE (rdE 9)) (tgN 1) (b_law_3))) [some (.scr ns), e1, e2, e3, e4, some (.d (.int (k : Nat))), some (.ref l), some (.d (.tuple ys)), some (.d (.tuple cs)), some (.own vals), e10', e11'] S4 = forD (tgN 1) b_law_3 vals [some (.scr ns), e1, e2, e3, e4, some (.d (.int (k : Nat))), some (.ref l), some (.d (.tuple ys)), some (.d (.tuple cs)), some (.d (.list vals)), e10', e11'] S4 := by
      simp [Env.frz]
    rw [s6]
    exact t
theorem k01_loop (ns : List Int) : ∀ (xs : List PyData) (a1 a2 a3 a4 a5 a6 a7 a8 a9 a10 a11 : Option EV) (S : Store), (∀ x, x ∈ xs → ∃ k : Nat, x = .int (k : Nat) ∧ k ≤ 1000) → ∃ b1 b2 b3 b4 b5 b6 b7 b8 b9 b10 b11 S', forD (tgN 5) b_law_4 xs [some (.scr ns), a1, a2, a3, a4, a5, a6, a7, a8, a9, a10, a11] S = .next [some (.scr ns), b1, b2, b3, b4, b5, b6, b7, b8, b9, b10, b11] S'
  | [], a1, a2, a3, a4, a5, a6, a7, a8, a9, a10, a11, S, _ => ⟨_, _, _, _, _, _, _, _, _, _, _, S, rfl⟩
  | x :: xs, a1, a2, a3, a4, a5, a6, a7, a8, a9, a10, a11, S, h => by
    obtain ⟨k, rfl, hk⟩ := h x List.mem_cons_self
    obtain ⟨c1, c2, c3, c4, c5, c6, c7, c8, c9, c10, c11, S1, e⟩ := k01_turn ns k hk a1 a2 a3 a4 a6 a7 a8 a9 a10 a11 S
    obtain ⟨b1, b2, b3, b4, b5, b6, b7, b8, b9, b10, b11, S', e2⟩ := k01_loop ns xs c1 c2 c3 c4 c5 c6 c7 c8 c9 c10 c11 S1 fun x hx => h x (List.mem_cons_of_mem _ hx)
    refine ⟨b1, b2, b3, b4, b5, b6, b7, b8, b9, b10, b11, S', ?_⟩
    unfold forD
    simp only [tgN_ap, List.set_cons_succ, List.set_cons_zero, e]
    exact e2
theorem k01 (ns : List Int) (hl : ns.length ≤ 63) : ∃ S', F_law [.scr ns] [] = .ok (.d (.bool true)) S' := by
  have hm : ∃ m : Nat, m ≤ 20 ∧ (if (6 : Int) < (if (ns.length : Int) < 20 then (ns.length : Int) else 20) then (if (ns.length : Int) < 20 then (ns.length : Int) else 20) else 6) = (m : Int) := by
    by_cases h1 : (ns.length : Int) < 20
    · rw [if_pos h1]
      by_cases h2 : (6 : Int) < ns.length
      · exact ⟨ns.length, by omega, by rw [if_pos h2]⟩
      · exact ⟨6, by omega, by rw [if_neg h2]; rfl⟩
    · rw [if_neg h1]
      exact ⟨20, by omega, by rfl⟩
  obtain ⟨m, hm1, hm2⟩ := hm
  obtain ⟨b1, b2, b3, b4, b5, b6, b7, b8, b9, b10, b11, S', e⟩ := k01_loop ns (rngL 0 m) (some (.d (.list [.str "up", .str "a"]))) (some (.d (.bool false))) (some (.d (.bool false))) (some (.d (.bool false))) none none none none none none none [] (fun x hx => by
    unfold rngL at hx
    obtain ⟨i, hi, rfl⟩ := List.mem_map.mp hx
    have := List.mem_range.mp hi
    exact ⟨i, by simp, by omega⟩)
  refine ⟨S', ?_⟩
  show endF (g_law [some (.scr ns), none, none, none, none, none, none, none, none, none, none, none] []) = _
  unfold g_law
  rw [seqS_ap, written_ok, RS.bind_next, seqS_ap]
  have s2 : (forS (rng1 (maxE (cE (.int 6)) (minE (cE (.int 20)) (lenE (rdE 0))))) (tgN 5) (b_law_4)) [some (.scr ns), some (.d (.list [.str "up", .str "a"])), some (.d (.bool false)), some (.d (.bool false)), some (.d (.bool false)), none, none, none, none, none, none, none] [] = .next [some (.scr ns), b1, b2, b3, b4, b5, b6, b7, b8, b9, b10, b11] S' := by
    have hr : (rng1 (maxE (cE (.int 6)) (minE (cE (.int 20)) (lenE (rdE 0))))) [some (.scr ns), some (.d (.list [.str "up", .str "a"])), some (.d (.bool false)), some (.d (.bool false)), some (.d (.bool false)), none, none, none, none, none, none, none] [] = .ok (.d (.list (rngL 0 m))) [] := by
      have : (maxE (cE (.int 6)) (minE (cE (.int 20)) (lenE (rdE 0)))) [some (.scr ns), some (.d (.list [.str "up", .str "a"])), some (.d (.bool false)), some (.d (.bool false)), some (.d (.bool false)), none, none, none, none, none, none, none] [] = .ok (.d (.int (m : Nat))) [] := by
        rw [← hm2]
        simp
      rw [rng1_ap, this, RE.bind_ok, rngK_nat (by omega)]
    rw [forS_ap, hr, RE.bindS_ok]
    exact e
  rw [s2, RS.bind_next, last_ok]
  rfl
end P

set_option Elab.async false
set_option linter.all false
set_option maxRecDepth 100000
set_option maxHeartbeats 4000000
/-! P10: ways to a name, rows. -/
namespace P
open PySem PySem.Spec PyProof.Rows L2 DL U

@[simp] theorem isN_none : (EV.d .none).isN = true := rfl
@[simp] theorem isN_int {i : Int} : (EV.d (.int i)).isN = false := rfl
@[simp] theorem isN_tup {xs : List PyData} : (EV.d (.tuple xs)).isN = false := rfl
@[simp] theorem isN_str {s : Str} : (EV.d (.str s)).isN = false := rfl
@[simp] theorem isN_list {xs : List PyData} : (EV.d (.list xs)).isN = false := rfl
/-- an item's name, or the thing itself -/
def called : PyData → PyData
  | .tuple (x :: _) => x
  | x => x
theorem called_key {x : PyData} (h : wfI x = true) : isThing (called x) = true := by
  rcases wf_form h with ⟨n, ys, rfl, hn, _⟩ | ⟨h1, h2, _⟩
  · exact name_thing hn
  · cases x with
    | int i => exact h1
    | str i => exact h1
    | _ => cases h1
theorem called_ids {x : PyData} (h : wfI x = true) : called x ∈ idsI x := by
  rcases wf_form h with ⟨n, ys, rfl, hn, _⟩ | ⟨h1, h2, h3, _⟩
  · simp [called]
  · rw [h3]
    cases x <;> first | (simp [called]; done) | cases h1
theorem name_of_eq {x : PyData} (h : wfI x = true) (S : Store) : F_name_of [.d x] S = .ok (.d (called x)) S := by
  show endF (g_name_of [some (.d x)] S) = _
  unfold g_name_of
  rcases wf_form h with ⟨n, ys, rfl, hn, _⟩ | ⟨h1, h2, _⟩
  · simp [called]
  · cases x <;> first | (simp [called]; done) | cases h1
theorem lcalled_eq {x : PyData} (h : wfI x = true) (S : Store) : F__law_called [.d x] S = .ok (.d (called x)) S := by
  show endF (g__law_called [some (.d x)] S) = _
  unfold g__law_called
  rcases wf_form h with ⟨n, ys, rfl, hn, _⟩ | ⟨h1, h2, _⟩
  · simp [called]
  · cases x <;> first | (simp [called]; done) | cases h1
theorem thing_sh {x : PyData} (h : isThing x = true) : SeqAt.shaped x = true := id_shaped (thing_id h)
/-- the place of a name in a row -/
def spot (row : List PyData) (n : PyData) : Option Nat := row.findIdx? fun x => PyData.eqv (called x) n
def intO : Option Nat → PyData
  | none => .none
  | some i => .int (i : Nat)
theorem index_go {row : Option EV} {n : PyData} (hn : isThing n = true) (S : Store) : ∀ (ys : List PyData) (k : Nat) (e2 e3 : Option EV), wfAll ys = true →
    (spot ys n = none ∧ ∃ e2' e3', forD (tgT [2, 3]) b_index_in_1 (enumL k ys) [row, some (.d n), e2, e3] S = .next [row, some (.d n), e2', e3'] S) ∨ ∃ i, spot ys n = some i ∧ forD (tgT [2, 3]) b_index_in_1 (enumL k ys) [row, some (.d n), e2, e3] S = .ret (.d (.int ((k + i : Nat) : Int))) S
  | [], k, e2, e3, _ => .inl ⟨rfl, e2, e3, rfl⟩
  | y :: ys, k, e2, e3, w => by
    rw [wfAll_cons, Bool.and_eq_true] at w
    unfold enumL forD spot
    simp only [tgT_ap, setAll_cons, setAll_nil, List.set_cons_succ, List.set_cons_zero]
    have hb : b_index_in_1 [row, some (.d n), some (.d (.int (k : Nat))), some (.d y)] S = if PyData.eqv (called y) n = true then .ret (.d (.int (k : Nat))) S else .next [row, some (.d n), some (.d (.int (k : Nat))), some (.d y)] S := by
      unfold b_index_in_1
      simp [name_of_eq w.1, eqG_sh (thing_sh (called_key w.1)) (thing_sh hn)]
    rw [hb]
    by_cases h : PyData.eqv (called y) n = true
    · rw [if_pos h]
      exact .inr ⟨0, by simp [List.findIdx?_cons, h], by simp⟩
    · rw [if_neg h]
      have hf : ∀ o, (spot ys n = o) → List.findIdx? (fun x => PyData.eqv (called x) n) (y :: ys) = o.map (· + 1) := fun o ho => by
        rw [List.findIdx?_cons]
        simp only [h]
        rw [← ho]
        rfl
      rcases index_go hn S ys (k + 1) (some (.d (.int (k : Nat)))) (some (.d y)) w.2 with ⟨h1, e2', e3', h2⟩ | ⟨i, h1, h2⟩
      · exact .inl ⟨hf _ h1, e2', e3', h2⟩
      · refine .inr ⟨i + 1, hf _ h1, ?_⟩
        rw [show k + (i + 1) = k + 1 + i by omega]
        exact h2
theorem index_eq {row : List PyData} {n : PyData} (w : wfAll row = true) (hn : isThing n = true) (S : Store) : F_index_in [.d (.tuple row), .d n] S = .ok (.d (intO (spot row n))) S := by
  show endF (g_index_in [some (.d (.tuple row)), some (.d n), none, none] S) = _
  unfold g_index_in
  rcases index_go (row := some (.d (.tuple row))) hn S row 0 none none w with ⟨h1, e2', e3', h2⟩ | ⟨i, h1, h2⟩
  · simp [h2, h1, intO]
  · simp [h2, h1, intO]
/-! ### the way to a name -/
mutual
def wayI : PyData → PyData → Option (List Nat)
  | .tuple [_, .tuple ys], n => wayAll 0 ys n
  | _, _ => none
def wayAll : Nat → List PyData → PyData → Option (List Nat)
  | _, [], _ => none
  | k, x :: xs, n => if PyData.eqv (called x) n = true then some [k] else match wayI x n with
    | some w => some (k :: w)
    | none => wayAll (k + 1) xs n
end
@[simp] theorem wayI_g {m n : PyData} {ys : List PyData} : wayI (.tuple [m, .tuple ys]) n = wayAll 0 ys n := by rw [wayI]
theorem wayI_t {x n : PyData} (h : isTup x = false) : wayI x n = none := by
  unfold wayI
  split
  · cases h
  · rfl
@[simp] theorem wayAll_nil {k : Nat} {n : PyData} : wayAll k [] n = none := by rw [wayAll]
theorem wayAll_cons {k : Nat} {x n : PyData} {xs : List PyData} : wayAll k (x :: xs) n = if PyData.eqv (called x) n = true then some [k] else match wayI x n with
    | some w => some (k :: w)
    | none => wayAll (k + 1) xs n := by rw [wayAll]
def wayD : Option (List Nat) → PyData
  | none => .none
  | some w => .tuple (w.map fun i => .int (i : Nat))
theorem way_len : ∀ (n : Nat) {ys : List PyData} {k : Nat} {m : PyData} {w : List Nat}, cnAll ys ≤ n → wayAll k ys m = some w → w.length ≤ cnAll ys ∧ w ≠ []
  | _, [], k, m, w, _, h => by rw [wayAll_nil] at h; cases h
  | 0, y :: ys, k, m, w, hc, h => by rw [cnAll_cons] at hc; omega
  | n + 1, y :: ys, k, m, w, hc, h => by
    rw [cnAll_cons] at hc ⊢
    rw [wayAll_cons] at h
    by_cases hq : PyData.eqv (called y) m = true
    · rw [if_pos hq] at h
      cases h
      exact ⟨by simp; omega, by simp⟩
    · rw [if_neg hq] at h
      cases q : wayI y m with
      | none =>
        simp only [q] at h
        obtain ⟨a, b⟩ := way_len n (by omega) h
        exact ⟨by omega, b⟩
      | some v =>
        simp only [q] at h
        cases h
        refine ⟨?_, by simp⟩
        rcases form y with ⟨g, zs, rfl⟩ | ⟨h1, _⟩
        · rw [wayI_g] at q
          simp only [cnI_tup, cnAll_cons, cnAll_nil] at hc ⊢
          obtain ⟨a, b⟩ := way_len n (by omega) q
          simp only [List.length_cons]
          omega
        · unfold wayI at q
          split at q
          · exact absurd rfl (h1 _ _)
          · cases q
theorem way_go {n : PyData} (hn : isThing n = true) (S : Store) (F : DF) (e0 : Option EV) : ∀ (ys : List PyData) (k : Nat) (e2 e3 e4 : Option EV), wfAll ys = true → cnAll ys ≤ 50000 → (∀ g zs, .tuple [g, .tuple zs] ∈ ys → F [.d (.tuple zs), .d n] S = .ok (.d (wayD (wayAll 0 zs n))) S) →
    (wayAll k ys n = none ∧ ∃ e2' e3' e4', forD (tgT [2, 3]) (b_way_to_1 F) (enumL k ys) [e0, some (.d n), e2, e3, e4] S = .next [e0, some (.d n), e2', e3', e4'] S) ∨ ∃ w, wayAll k ys n = some w ∧ forD (tgT [2, 3]) (b_way_to_1 F) (enumL k ys) [e0, some (.d n), e2, e3, e4] S = .ret (.d (wayD (some w))) S
  | [], k, e2, e3, e4, _, _, _ => .inl ⟨wayAll_nil, e2, e3, e4, rfl⟩
  | y :: ys, k, e2, e3, e4, w, hc, hF => by
    rw [wfAll_cons, Bool.and_eq_true] at w
    rw [cnAll_cons] at hc
    unfold enumL forD
    simp only [tgT_ap, setAll_cons, setAll_nil, List.set_cons_succ, List.set_cons_zero]
    have hb : b_way_to_1 F [e0, some (.d n), some (.d (.int (k : Nat))), some (.d y), e4] S = if PyData.eqv (called y) n = true then .ret (.d (wayD (some [k]))) S else match wayI y n with
        | some v => .ret (.d (wayD (some (k :: v)))) S
        | none => .next [e0, some (.d n), some (.d (.int (k : Nat))), some (.d y), some (.d .none)] S := by
      unfold b_way_to_1
      by_cases hq : PyData.eqv (called y) n = true
      · simp [name_of_eq w.1, eqG_sh (thing_sh (called_key w.1)) (thing_sh hn), hq, wayD]
      · rcases wf_form w.1 with ⟨g, zs, rfl, hg, hz⟩ | ⟨h1, h2, _⟩
        · have := hF g zs (by simp)
          rw [wayI_g]
          cases q : wayAll 0 zs n with
          | none =>
            rw [q] at this
            simp [name_of_eq w.1, eqG_sh (thing_sh (called_key w.1)) (thing_sh hn), hq, this, wayD, kIsN]
          | some v =>
            rw [q] at this
            have hv := way_len _ (Nat.le_refl (cnAll zs)) q
            simp only [cnI_tup, cnAll_cons] at hc
            simp [name_of_eq w.1, eqG_sh (thing_sh (called_key w.1)) (thing_sh hn), hq, this, wayD, kIsN]
            rw [addG_tuple (by simp; omega)]
            simp
        · rw [wayI_t h2]
          have h4 : ¬ (tyD y = "tuple") := by cases y <;> first | (simp; done) | cases h2
          have h5 : (tyD y == "tuple") = false := by rw [beq_eq_false_iff_ne]; exact h4
          simp [name_of_eq w.1, eqG_sh (thing_sh (called_key w.1)) (thing_sh hn), hq, h4, h5, kIsN]
    rw [hb, wayAll_cons]
    by_cases hq : PyData.eqv (called y) n = true
    · rw [if_pos hq, if_pos hq]
      exact .inr ⟨[k], rfl, rfl⟩
    · rw [if_neg hq, if_neg hq]
      cases q : wayI y n with
      | some v => exact .inr ⟨k :: v, rfl, rfl⟩
      | none =>
        simp only
        exact way_go hn S F e0 ys (k + 1) _ _ _ w.2 (by omega) fun g zs hm => hF g zs (List.mem_cons_of_mem _ hm)
theorem way_eq {n : PyData} (hn : isThing n = true) (S : Store) : ∀ (d : Nat) (ys : List PyData), wfAll ys = true → cnAll ys ≤ 50000 → dpAll ys < d → F_way_to d [.d (.tuple ys), .d n] S = .ok (.d (wayD (wayAll 0 ys n))) S
  | 0, ys, _, _, h => by omega
  | d + 1, ys, w, hc, h => by
    show endF (g_way_to (F_way_to d) [some (.d (.tuple ys)), some (.d n), none, none, none] S) = _
    unfold g_way_to
    rcases way_go hn S (F_way_to d) (some (.d (.tuple ys))) ys 0 none none none w hc (fun g zs hm => by
      obtain ⟨h1, h2, _⟩ := wf_mem w hm
      rw [wfI_g, Bool.and_eq_true] at h1
      rw [dpI_g] at h2
      have := cn_mem hm
      simp only [cnI_tup, cnAll_cons] at this
      exact way_eq hn S d zs h1.2 (by omega) (by omega)) with ⟨h1, a, b, c, h2⟩ | ⟨v, h1, h2⟩
    · simp [h2, h1, wayD]
    · simp [h2, h1]
end P

set_option Elab.async false
set_option linter.all false
set_option maxRecDepth 100000
set_option maxHeartbeats 4000000
/-! P11: one row of a drawing is changed. -/
namespace P
open PySem PySem.Spec PyProof.Rows L2 DL U

def rowAt : List PyData → List Nat → List PyData
  | ys, i :: j :: w => match ys[i]? with
    | some (.tuple [_, .tuple zs]) => rowAt zs (j :: w)
    | _ => ys
  | ys, _ => ys
def validW : List PyData → List Nat → Prop
  | ys, i :: j :: w => ∃ g zs, ys[i]? = some (.tuple [g, .tuple zs]) ∧ validW zs (j :: w)
  | ys, [i] => i < ys.length
  | _, [] => False
def withRow : List PyData → List Nat → List PyData → List PyData
  | ys, i :: j :: w, row => match ys[i]? with
    | some (.tuple [g, .tuple zs]) => ys.take i ++ [.tuple [g, .tuple (withRow zs (j :: w) row)]] ++ ys.drop (i + 1)
    | _ => ys
  | _, _, row => row
/-- where the way leads: the first item of that name, or the first that holds it -/
theorem way_none {n : PyData} : ∀ {xs : List PyData} {k : Nat}, wayAll k xs n = none ↔ ∀ x, x ∈ xs → PyData.eqv (called x) n = false ∧ wayI x n = none
  | [], k => by simp
  | x :: xs, k => by
    rw [wayAll_cons]
    by_cases hq : PyData.eqv (called x) n = true
    · rw [if_pos hq]
      simp [hq]
    · rw [if_neg hq]
      have hq' : PyData.eqv (called x) n = false := by simpa using hq
      cases q : wayI x n with
      | some v => simp [q]
      | none =>
        simp only [List.forall_mem_cons, q, hq', and_self, true_and]
        exact way_none
theorem way_some {n : PyData} : ∀ {xs : List PyData} {k : Nat} {w : List Nat}, wayAll k xs n = some w → ∃ A x B, xs = A ++ x :: B ∧ (∀ y, y ∈ A → PyData.eqv (called y) n = false ∧ wayI y n = none) ∧
    ((PyData.eqv (called x) n = true ∧ w = [k + A.length]) ∨ (PyData.eqv (called x) n = false ∧ ∃ v, wayI x n = some v ∧ w = (k + A.length) :: v))
  | [], k, w, h => by rw [wayAll_nil] at h; cases h
  | x :: xs, k, w, h => by
    rw [wayAll_cons] at h
    by_cases hq : PyData.eqv (called x) n = true
    · rw [if_pos hq] at h
      cases h
      exact ⟨[], x, xs, rfl, by simp, .inl ⟨hq, by simp⟩⟩
    · rw [if_neg hq] at h
      have hq' : PyData.eqv (called x) n = false := by simpa using hq
      cases q : wayI x n with
      | some v =>
        simp only [q] at h
        cases h
        exact ⟨[], x, xs, rfl, by simp, .inr ⟨hq', v, q, by simp⟩⟩
      | none =>
        simp only [q] at h
        obtain ⟨A, y, B, e, h1, h2⟩ := way_some h
        refine ⟨x :: A, y, B, by rw [e]; rfl, fun z hz => ?_, ?_⟩
        · rcases List.mem_cons.mp hz with r | r
          · rw [r]; exact ⟨hq', q⟩
          · exact h1 z r
        · rw [List.length_cons, show k + (A.length + 1) = k + 1 + A.length by omega]
          exact h2
section
variable (f : List PyData → Nat → List PyData) (n : PyData)
mutual
def doneI : PyData → PyData
  | .tuple [g, .tuple ys] => .tuple [g, .tuple (match spot ys n with
    | some at_ => f ys at_
    | none => doneMap ys)]
  | x => x
def doneMap : List PyData → List PyData
  | [] => []
  | x :: xs => doneI x :: doneMap xs
end
def doneAll (ys : List PyData) : List PyData := match spot ys n with
  | some at_ => f ys at_
  | none => doneMap f n ys
end
theorem doneI_g {f : List PyData → Nat → List PyData} {n g : PyData} {ys : List PyData} : doneI f n (.tuple [g, .tuple ys]) = .tuple [g, .tuple (doneAll f n ys)] := by
  rw [doneI]
  rfl
theorem doneI_t {f : List PyData → Nat → List PyData} {n x : PyData} (h : isTup x = false) : doneI f n x = x := by
  unfold doneI
  split
  · cases h
  · rfl
theorem doneMap_app {f : List PyData → Nat → List PyData} {n : PyData} (A B : List PyData) : doneMap f n (A ++ B) = doneMap f n A ++ doneMap f n B := by
  induction A with
  | nil => rw [doneMap]; rfl
  | cons x A ih => rw [List.cons_append, doneMap, doneMap, ih]; rfl
theorem doneMap_same {f : List PyData → Nat → List PyData} {n : PyData} : ∀ (A : List PyData), (∀ x, x ∈ A → doneI f n x = x) → doneMap f n A = A
  | [], _ => by rw [doneMap]
  | x :: A, h => by rw [doneMap, h x List.mem_cons_self, doneMap_same A fun y hy => h y (List.mem_cons_of_mem _ hy)]
theorem spot_none {ys : List PyData} {n : PyData} : spot ys n = none ↔ ∀ x, x ∈ ys → PyData.eqv (called x) n = false := by
  unfold spot
  rw [List.findIdx?_eq_none_iff]
theorem spot_at {A B : List PyData} {x n : PyData} (h : ∀ y, y ∈ A → PyData.eqv (called y) n = false) (hx : PyData.eqv (called x) n = true) : spot (A ++ x :: B) n = some A.length := by
  induction A with
  | nil => simp [spot, List.findIdx?_cons, hx]
  | cons a A ih =>
    have := ih fun y hy => h y (List.mem_cons_of_mem _ hy)
    unfold spot at this ⊢
    rw [List.cons_append, List.findIdx?_cons, h a List.mem_cons_self]
    simp only [this]
    simp
theorem ids_mem {ys : List PyData} {n : PyData} : n ∈ idsAll ys ↔ ∃ x, x ∈ ys ∧ n ∈ idsI x := by
  induction ys with
  | nil => simp
  | cons y ys ih => simp [ih]
/-- the way, and what is done on it -/
theorem edit {n : PyData} (hn : isThing n = true) (f : List PyData → Nat → List PyData) : ∀ (N : Nat) {ys : List PyData}, cnAll ys ≤ N → wfAll ys = true → (idsAll ys).Nodup →
    (wayAll 0 ys n = none → n ∉ idsAll ys ∧ spot ys n = none ∧ doneMap f n ys = ys) ∧
    (∀ w, wayAll 0 ys n = some w → n ∈ idsAll ys ∧ validW ys w ∧ withRow ys w (f (rowAt ys w) (w.getLast?.getD 0)) = doneAll f n ys)
  | N, ys, hc, w, nd => by
    -- what holds of one item
    have item : ∀ x, x ∈ ys → wfI x = true ∧ (idsI x).Nodup := fun x hx => by
      refine ⟨(wf_mem w hx).1, ?_⟩
      obtain ⟨A, B, e⟩ := List.append_of_mem hx
      rw [e, (all_app _ _).2.1, idsAll_cons] at nd
      exact ((List.nodup_append.mp (List.nodup_append.mp nd).2.1).1)
    have inner : ∀ g zs, .tuple [g, .tuple zs] ∈ ys → cnAll zs + 3 ≤ N ∧ wfAll zs = true ∧ (idsAll zs).Nodup ∧ g ∉ idsAll zs := fun g zs hx => by
      have h1 := cn_mem hx
      simp only [cnI_tup, cnAll_cons, cnAll_nil] at h1
      obtain ⟨h2, h3⟩ := item _ hx
      rw [wfI_g, Bool.and_eq_true] at h2
      rw [idsI_g, List.nodup_cons] at h3
      exact ⟨by omega, h2.2, h3.2, h3.1⟩
    have eqk : ∀ x, x ∈ ys → (PyData.eqv (called x) n = true ↔ called x = n) := fun x hx => key_eqv (thing_key (called_key (item x hx).1)) (thing_key hn)
    have rec_ : ∀ g zs, .tuple [g, .tuple zs] ∈ ys → _ := fun g zs hx => match N, inner g zs hx with
      | N + 1, h => edit hn f N (ys := zs) (by omega) h.2.1 h.2.2.1
      | 0, h => absurd h.1 (by omega)
    have notIn : ∀ x, x ∈ ys → PyData.eqv (called x) n = false → wayI x n = none → n ∉ idsI x := fun x hx h1 h2 => by
      rcases wf_form (item x hx).1 with ⟨g, zs, rfl, _, _⟩ | ⟨q1, q2, q3, _⟩
      · rw [wayI_g] at h2
        rw [idsI_g]
        have := ((rec_ g zs hx).1 h2).1
        have e1 := mt (eqk _ hx).mpr (by rw [h1]; simp)
        simp only [called] at e1
        simp only [List.mem_cons, not_or]
        exact ⟨fun z => e1 z.symm, this⟩
      · rw [q3]
        have e1 := mt (eqk _ hx).mpr (by rw [h1]; simp)
        have : called x = x := by cases x <;> first | rfl | cases q1
        rw [this] at e1
        simp only [List.mem_singleton]
        exact fun z => e1 z.symm
    have same : ∀ x, x ∈ ys → n ∉ idsI x → doneI f n x = x := fun x hx h => by
      rcases wf_form (item x hx).1 with ⟨g, zs, rfl, _, _⟩ | ⟨q1, q2, q3, _⟩
      · rw [idsI_g, List.mem_cons, not_or] at h
        rw [doneI_g]
        have hw : wayAll 0 zs n = none := by
          cases q : wayAll 0 zs n with
          | none => rfl
          | some v => exact absurd ((rec_ g zs hx).2 v q).1 h.2
        obtain ⟨_, r1, r2⟩ := (rec_ g zs hx).1 hw
        unfold doneAll
        rw [r1]
        simp only
        rw [r2]
      · exact doneI_t q2
    refine ⟨fun h => ?_, fun v h => ?_⟩
    · have hh := way_none.mp h
      have hni : ∀ x, x ∈ ys → n ∉ idsI x := fun x hx => notIn x hx (hh x hx).1 (hh x hx).2
      exact ⟨fun z => (ids_mem.mp z).elim fun x q => hni x q.1 q.2, spot_none.mpr fun x hx => (hh x hx).1, doneMap_same _ fun x hx => same x hx (hni x hx)⟩
    · obtain ⟨A, x, B, rfl, hA, hx⟩ := way_some h
      have mx : x ∈ A ++ x :: B := by simp
      rcases hx with ⟨hq, rfl⟩ | ⟨hq, v', hv, rfl⟩
      · refine ⟨ids_mem.mpr ⟨x, mx, ?_⟩, ?_, ?_⟩
        · rw [← (eqk x mx).mp hq]
          exact called_ids (item x mx).1
        · simp [validW]
        · unfold doneAll
          rw [spot_at (fun y hy => (hA y hy).1) hq]
          simp [withRow, rowAt]
      · rcases wf_form (item x mx).1 with ⟨g, zs, rfl, _, _⟩ | ⟨q1, q2, q3, _⟩
        · rw [wayI_g] at hv
          obtain ⟨r1, r2, r3⟩ := (rec_ g zs mx).2 v' hv
          have hv0 := (way_len _ (Nat.le_refl _) hv).2
          obtain ⟨j, w', rfl⟩ : ∃ j w', v' = j :: w' := by
            cases v' with
            | nil => exact absurd rfl hv0
            | cons j w' => exact ⟨j, w', rfl⟩
          have gx : (A ++ .tuple [g, .tuple zs] :: B)[0 + A.length]? = some (.tuple [g, .tuple zs]) := by
            rw [Nat.zero_add, List.getElem?_append_right (Nat.le_refl _), Nat.sub_self]
            rfl
          have out : ∀ y, y ∈ A ∨ y ∈ B → n ∉ idsI y := fun y hy hm => by
            rw [(all_app _ _).2.1, idsAll_cons, idsI_g] at nd
            have inX : n ∈ (g :: idsAll zs) := List.mem_cons_of_mem _ r1
            rcases hy with hy | hy
            · exact (List.nodup_append.mp nd).2.2 n (ids_mem.mpr ⟨y, hy, hm⟩) n (List.mem_append_left _ inX) rfl
            · exact (List.nodup_append.mp (List.nodup_append.mp nd).2.1).2.2 n inX n (ids_mem.mpr ⟨y, hy, hm⟩) rfl
          have notCalled : ∀ y, y ∈ A ++ .tuple [g, .tuple zs] :: B → PyData.eqv (called y) n = false := fun y hy => by
            rw [← Bool.not_eq_true, eqk y hy]
            intro e
            rcases List.mem_append.mp hy with z | z
            · exact out y (.inl z) (by rw [← e]; exact called_ids (item y hy).1)
            · rcases List.mem_cons.mp z with z | z
              · subst z
                simp only [called] at e
                exact (inner g zs mx).2.2.2 (by rw [e]; exact r1)
              · exact out y (.inr z) (by rw [← e]; exact called_ids (item y hy).1)
          refine ⟨ids_mem.mpr ⟨_, mx, by rw [idsI_g]; exact List.mem_cons_of_mem _ r1⟩, ⟨g, zs, gx, r2⟩, ?_⟩
          have e1 : rowAt (A ++ .tuple [g, .tuple zs] :: B) ((0 + A.length) :: j :: w') = rowAt zs (j :: w') := by
            rw [rowAt, gx]
          have e2 : ((0 + A.length) :: j :: w').getLast?.getD 0 = (j :: w').getLast?.getD 0 := by
            rw [List.getLast?_cons_cons]
          rw [e1, e2, withRow, gx]
          simp only
          rw [r3]
          unfold doneAll
          rw [spot_none.mpr notCalled]
          simp only
          rw [doneMap_app, doneMap, doneI_g, doneMap_same A fun y hy => same y (by simp [hy]) (out y (.inl hy)), doneMap_same B fun y hy => same y (by simp [hy]) (out y (.inr hy))]
          unfold doneAll
          simp
        · rw [wayI_t q2] at hv
          cases hv
end P

set_option Elab.async false
set_option linter.all false
set_option maxRecDepth 100000
set_option maxHeartbeats 4000000
/-! P12: the program's rows. -/
namespace P
open PySem PySem.Spec PyProof.Rows L2 DL U

abbrev nums (w : List Nat) : List PyData := w.map fun i => .int (i : Nat)
theorem wayD_some {w : List Nat} : wayD (some w) = .tuple (nums w) := rfl
theorem atI_map {w : List Nat} {k : Nat} (h : k < w.length) : atI (nums w) (k : Int) = some (.int (w[k] : Nat)) := by
  rw [atI_nat (by simpa using h)]
  simp
theorem row_go {S : Store} {e1 : Option EV} : ∀ (w : List Nat) (ys : List PyData) (e2 : Option EV), validW ys w → ∃ e2', forD (tgN 2) b_row_at_1 (nums w.dropLast) [some (.d (.tuple ys)), e1, e2] S = .next [some (.d (.tuple (rowAt ys w))), e1, e2'] S
  | [], ys, e2, h => h.elim
  | [i], ys, e2, h => ⟨e2, by simp [forD, rowAt]⟩
  | i :: j :: w, ys, e2, h => by
    obtain ⟨g, zs, hg, hv⟩ := h
    obtain ⟨e2', h2⟩ := row_go (j :: w) zs (some (.d (.int (i : Nat)))) hv
    refine ⟨e2', ?_⟩
    rw [List.dropLast_cons_cons]
    simp only [nums, List.map_cons]
    unfold forD
    have hi := (List.getElem?_eq_some_iff.mp hg)
    have ha : atI ys (i : Int) = some (.tuple [g, .tuple zs]) := by
      rw [atI_nat hi.1, hi.2]
    have hb : b_row_at_1 ([some (.d (.tuple ys)), e1, e2].set 2 (some (.d (.int (i : Nat))))) S = .next [some (.d (.tuple zs)), e1, some (.d (.int (i : Nat)))] S := by
      unfold b_row_at_1
      simp [ha]
    simp only [tgN_ap, hb]
    rw [rowAt, hg]
    exact h2
theorem cut_last {w : List Nat} (h : w ≠ []) : DL.cutD (nums w) none (some ((w.length : Int) - 1)) = nums w.dropLast := by
  have hl := List.length_pos_iff.mpr h
  rw [show (w.length : Int) - 1 = ((w.length - 1 : Nat) : Int) by omega, cut_to (by simp)]
  rw [List.dropLast_eq_take, nums, nums, List.map_take]
theorem valid_ne {ys : List PyData} {w : List Nat} (h : validW ys w) : w ≠ [] := by
  rintro rfl
  exact h
theorem row_at_eq {ys : List PyData} {w : List Nat} (h : validW ys w) (S : Store) : F_row_at [.d (.tuple ys), .d (.tuple (nums w))] S = .ok (.d (.tuple (rowAt ys w))) S := by
  show endF (g_row_at [some (.d (.tuple ys)), some (.d (.tuple (nums w))), none] S) = _
  obtain ⟨e2', h2⟩ := row_go (S := S) (e1 := some (.d (.tuple (nums w)))) w ys none h
  have hc := cut_last (valid_ne h)
  have e : nums w.dropLast = (List.map (fun i => PyData.int ((i : Nat) : Int)) w).dropLast := by simp [nums]
  rw [e] at h2
  unfold g_row_at
  simp [hc, h2]
theorem with_row_eq (S : Store) {row : List PyData} : ∀ (w : List Nat) (ys : List PyData) (d : Nat), validW ys w → w.length ≤ d → cnAll ys ≤ 30000 → F_with_row d [.d (.tuple ys), .d (.tuple (nums w)), .d (.tuple row)] S = .ok (.d (.tuple (withRow ys w row))) S
  | [], ys, d, h, _, _ => h.elim
  | [i], ys, 0, h, hd, _ => by simp at hd
  | [i], ys, d + 1, h, _, _ => by
    show endF (g_with_row (F_with_row d) [some (.d (.tuple ys)), some (.d (.tuple (nums [i]))), some (.d (.tuple row)), none, none] S) = _
    unfold g_with_row
    simp [nums, withRow]
  | i :: j :: w, ys, 0, h, hd, _ => by simp at hd
  | i :: j :: w, ys, d + 1, h, hd, hc => by
    obtain ⟨g, zs, hg, hv⟩ := h
    have hi := (List.getElem?_eq_some_iff.mp hg)
    have hm := cn_mem (List.mem_of_getElem? hg)
    simp only [cnI_tup, cnAll_cons] at hm
    have hl := cn_len ys
    have ih := with_row_eq S (row := row) (j :: w) zs d hv (by simpa using hd) (by omega)
    have ha : atI ys (i : Int) = some (.tuple [g, .tuple zs]) := by
      rw [atI_nat hi.1, hi.2]
    have c0 : DL.cutD (.int (i : Nat) :: nums (j :: w)) (some 1) none = nums (j :: w) := cut_from (k := 1) (by simp)
    have c1 : DL.cutD ys none (some (i : Int)) = _ := cut_to (Nat.le_of_lt hi.1)
    have c2 : DL.cutD ys (some ((i : Int) + 1)) none = _ := cut_from (k := i + 1) hi.1
    have a1 : addG (.tuple (ys.take i)) (.tuple [.tuple [g, .tuple (withRow zs (j :: w) row)]]) = _ := addG_tuple (by rw [List.length_take]; simp; omega)
    have a2 : addG (.tuple (ys.take i ++ [.tuple [g, .tuple (withRow zs (j :: w) row)]])) (.tuple (ys.drop (i + 1))) = _ := addG_tuple (by rw [List.length_append, List.length_take, List.length_drop]; simp; omega)
    have hn : (((nums (i :: j :: w)).length : Int) == 1) = false := by
      rw [beq_eq_false_iff_ne]
      simp
      omega
    show endF (g_with_row (F_with_row d) [some (.d (.tuple ys)), some (.d (.tuple (nums (i :: j :: w)))), some (.d (.tuple row)), none, none] S) = _
    rw [withRow, hg]
    simp only [nums, List.map_cons] at ih c0 hn ⊢
    unfold g_with_row
    simp only [List.append_assoc] at a2
    have hn2 : ¬ ((w.length : Int) + 1 + 1 = 1) := by omega
    simp [hn2, ha, c0, c1, c2, ih, a1, a2]
    try simp [ha, c0, c1, c2, ih, a1, a2]
/-- a move in a row -/
def put (rest : List PyData) (to : Nat) (x : PyData) : List PyData := rest.take to ++ [x] ++ rest.drop to
theorem moved_eq {row : List PyData} {at_ to : Nat} (h : at_ < row.length) (ht : to < row.length) (hl : row.length ≤ 30000) (S : Store) :
    F_moved [.d (.tuple row), .d (.int (at_ : Nat)), .d (.int (to : Nat))] S = .ok (.d (.tuple (put (row.eraseIdx at_) to row[at_]))) S := by
  show endF (g_moved [some (.d (.tuple row)), some (.d (.int (at_ : Nat))), some (.d (.int (to : Nat))), none] S) = _
  have c1 : DL.cutD row none (some (at_ : Int)) = _ := cut_to (by omega)
  have c2 : DL.cutD row (some ((at_ : Int) + 1)) none = _ := cut_from (k := at_ + 1) (by omega)
  have er : row.take at_ ++ row.drop (at_ + 1) = row.eraseIdx at_ := (List.eraseIdx_eq_take_drop_succ row at_).symm
  have le : (row.eraseIdx at_).length = row.length - 1 := by rw [List.length_eraseIdx, if_pos h]
  have a1 : addG (.tuple (row.take at_)) (.tuple (row.drop (at_ + 1))) = some (.d (.tuple (row.eraseIdx at_))) := by
    rw [addG_tuple (by rw [List.length_take, List.length_drop]; omega), er]
  have c3 : DL.cutD (row.eraseIdx at_) none (some (to : Int)) = _ := cut_to (by omega)
  have c4 : DL.cutD (row.eraseIdx at_) (some (to : Int)) none = _ := cut_from (k := to) (by omega)
  have ha := atI_nat h
  have a2 : addG (.tuple ((row.eraseIdx at_).take to)) (.tuple [row[at_]]) = _ := addG_tuple (by rw [List.length_take]; simp; omega)
  have a3 : addG (.tuple ((row.eraseIdx at_).take to ++ [row[at_]])) (.tuple ((row.eraseIdx at_).drop to)) = _ := addG_tuple (by rw [List.length_append, List.length_take, List.length_drop]; simp; omega)
  unfold g_moved
  simp [c1, c2, a1, c3, c4, ha, a2, a3, put]
  try simp [c3, c4, a2, a3, put]
end P

set_option Elab.async false
set_option linter.all false
set_option maxRecDepth 100000
set_option maxHeartbeats 4000000
/-! P13: the program's commands in a row. -/
namespace P
open PySem PySem.Spec PyProof.Rows L2 DL U

theorem kind1 {s : Str} (h : kind s = 1) : s = "front" ∨ s = "back" ∨ s = "up" ∨ s = "down" ∨ s = "ungroup" := by
  have := kind_word (s := s) (by omega)
  simp only [List.mem_cons, List.not_mem_nil, or_false] at this
  rcases this with rfl | rfl | rfl | rfl | rfl | rfl | rfl | rfl
  · simp
  · simp
  · simp
  · simp
  · simp
  · exact absurd h (by decide +kernel)
  · exact absurd h (by decide +kernel)
  · exact absurd h (by decide +kernel)
theorem kind2 {s : Str} (h : kind s = 2) : s = "above" ∨ s = "below" := by
  have := kind_word (s := s) (by omega)
  simp only [List.mem_cons, List.not_mem_nil, or_false] at this
  rcases this with rfl | rfl | rfl | rfl | rfl | rfl | rfl | rfl
  · exact absurd h (by decide +kernel)
  · exact absurd h (by decide +kernel)
  · exact absurd h (by decide +kernel)
  · exact absurd h (by decide +kernel)
  · exact absurd h (by decide +kernel)
  · simp
  · simp
  · exact absurd h (by decide +kernel)
theorem kind3 {s : Str} (h : kind s = 3) : s = "group" := by
  have := kind_word (s := s) (by omega)
  simp only [List.mem_cons, List.not_mem_nil, or_false] at this
  rcases this with rfl | rfl | rfl | rfl | rfl | rfl | rfl | rfl
  · exact absurd h (by decide +kernel)
  · exact absurd h (by decide +kernel)
  · exact absurd h (by decide +kernel)
  · exact absurd h (by decide +kernel)
  · exact absurd h (by decide +kernel)
  · exact absurd h (by decide +kernel)
  · exact absurd h (by decide +kernel)
  · rfl
/-- what is in a group -/
def ungr (row : List PyData) (at_ : Nat) : List PyData := match row[at_]? with
  | some (.tuple [_, .tuple zs]) => row.take at_ ++ zs ++ row.drop (at_ + 1)
  | _ => row
def mv (row : List PyData) (at_ to : Nat) : List PyData := match row[at_]? with
  | some x => put (row.eraseIdx at_) to x
  | none => row
def aloneR (s : Str) (row : List PyData) (at_ : Nat) : List PyData :=
  if s = "ungroup" then ungr row at_ else if s = "front" then mv row at_ (row.length - 1) else if s = "back" then mv row at_ 0 else if s = "up" then mv row at_ (min (at_ + 1) (row.length - 1)) else mv row at_ (at_ - 1)
theorem moved_mv {row : List PyData} {at_ to : Nat} (h : at_ < row.length) (ht : to < row.length) (hl : row.length ≤ 30000) (S : Store) :
    F_moved [.d (.tuple row), .d (.int (at_ : Nat)), .d (.int (to : Nat))] S = .ok (.d (.tuple (mv row at_ to))) S := by
  rw [moved_eq h ht hl, mv, List.getElem?_eq_getElem h]
theorem alone_eq {s : Str} (hs : kind s = 1) {row : List PyData} {at_ : Nat} (w : wfAll row = true) (h : at_ < row.length) (hl : cnAll row ≤ 30000) (S : Store) :
    F_alone_in [.d (.str s), .d (.tuple row), .d (.int (at_ : Nat))] S = .ok (.d (.tuple (aloneR s row at_))) S := by
  show endF (g_alone_in [some (.d (.str s)), some (.d (.tuple row)), some (.d (.int (at_ : Nat))), none] S) = _
  have hl2 := cn_len row
  have top : ((row.length : Int) - 1) = ((row.length - 1 : Nat) : Int) := by omega
  have m1 := fun to ht => moved_mv (to := to) h ht (by omega) S
  rcases kind1 hs with rfl | rfl | rfl | rfl | rfl
  · have q1 : eqG (.str "front") (.str "ungroup") = some (dB false) := by kernel_rfl
    have q2 : inG false (.str "front") (.tuple [.str "front", .str "back"]) = some (dB true) := by kernel_rfl
    have q3 : eqG (.str "front") (.str "front") = some (dB true) := by kernel_rfl
    have q4 : aloneR "front" row at_ = mv row at_ (row.length - 1) := by
      unfold aloneR
      rw [if_neg (by decide +kernel), if_pos rfl]
    unfold g_alone_in
    simp [top, q1, q2, q3, m1 (row.length - 1) (by omega), q4]
  · have q1 : eqG (.str "back") (.str "ungroup") = some (dB false) := by kernel_rfl
    have q2 : inG false (.str "back") (.tuple [.str "front", .str "back"]) = some (dB true) := by kernel_rfl
    have q3 : eqG (.str "back") (.str "front") = some (dB false) := by kernel_rfl
    have q4 : aloneR "back" row at_ = mv row at_ 0 := by
      unfold aloneR
      rw [if_neg (by decide +kernel), if_neg (by decide +kernel), if_pos rfl]
    have m0 : F_moved [.d (.tuple row), .d (.int (at_ : Nat)), .d (.int 0)] S = _ := m1 0 (by omega)
    unfold g_alone_in
    simp [top, q1, q2, q3, m0, q4]
  · have q1 : eqG (.str "up") (.str "ungroup") = some (dB false) := by kernel_rfl
    have q2 : inG false (.str "up") (.tuple [.str "front", .str "back"]) = some (dB false) := by kernel_rfl
    have q3 : eqG (.str "up") (.str "up") = some (dB true) := by kernel_rfl
    have q4 : aloneR "up" row at_ = mv row at_ (min (at_ + 1) (row.length - 1)) := by
      unfold aloneR
      rw [if_neg (by decide +kernel), if_neg (by decide +kernel), if_neg (by decide +kernel), if_pos rfl]
    have q5 : (if ((row.length - 1 : Nat) : Int) < (at_ : Int) + 1 then ((row.length - 1 : Nat) : Int) else (at_ : Int) + 1) = ((min (at_ + 1) (row.length - 1) : Nat) : Int) := by
      split <;> omega
    unfold g_alone_in
    simp [top, q1, q2, q3, q4]
    rw [q5, m1 _ (by omega)]
    simp
  · have q1 : eqG (.str "down") (.str "ungroup") = some (dB false) := by kernel_rfl
    have q2 : inG false (.str "down") (.tuple [.str "front", .str "back"]) = some (dB false) := by kernel_rfl
    have q3 : eqG (.str "down") (.str "up") = some (dB false) := by kernel_rfl
    have q4 : aloneR "down" row at_ = mv row at_ (at_ - 1) := by
      unfold aloneR
      rw [if_neg (by decide +kernel), if_neg (by decide +kernel), if_neg (by decide +kernel), if_neg (by decide +kernel)]
    have q5 : (if (at_ : Int) - 1 < 0 then (0 : Int) else (at_ : Int) - 1) = ((at_ - 1 : Nat) : Int) := by
      split <;> omega
    unfold g_alone_in
    simp [top, q1, q2, q3, q4]
    rw [q5, m1 _ (by omega)]
    simp
  · have q1 : eqG (.str "ungroup") (.str "ungroup") = some (dB true) := by kernel_rfl
    have q4 : aloneR "ungroup" row at_ = ungr row at_ := by
      unfold aloneR
      rw [if_pos rfl]
    have ha := atI_nat h
    have c1 : DL.cutD row none (some (at_ : Int)) = _ := cut_to (Nat.le_of_lt h)
    have c2 : DL.cutD row (some ((at_ : Int) + 1)) none = _ := cut_from (k := at_ + 1) h
    rcases wf_form ((wf_mem w (List.getElem_mem h)).1) with ⟨g, zs, e, _, _⟩ | ⟨_, t2, _⟩
    · have hm := cn_mem (List.getElem_mem h)
      rw [e] at hm ha
      simp only [cnI_tup, cnAll_cons] at hm
      have hz := cn_len zs
      have a1 : addG (.tuple (row.take at_)) (.tuple zs) = _ := addG_tuple (by rw [List.length_take]; omega)
      have a2 : addG (.tuple (row.take at_ ++ zs)) (.tuple (row.drop (at_ + 1))) = _ := addG_tuple (by rw [List.length_append, List.length_take, List.length_drop]; omega)
      have hu : ungr row at_ = row.take at_ ++ zs ++ row.drop (at_ + 1) := by
        unfold ungr
        rw [List.getElem?_eq_getElem h, e]
      unfold g_alone_in
      simp only [List.append_assoc] at a2 hu
      simp [top, q1, q4, ha, c1, c2, a1, a2, hu]
      try simp [ha, c1, c2, a1, a2, hu]
    · have h4 : ¬ (tyD row[at_] = "tuple") := by
        cases q : row[at_] with
        | tuple xs => rw [q] at t2; cases t2
        | _ => simp
      have h5 : (tyD row[at_] == "tuple") = false := by rw [beq_eq_false_iff_ne]; exact h4
      have hu : ungr row at_ = row := by
        unfold ungr
        rw [List.getElem?_eq_getElem h]
        cases q : row[at_] with
        | tuple xs => rw [q] at t2; cases t2
        | _ => rfl
      unfold g_alone_in
      simp [top, q1, q4, ha, h4, h5, hu]
def besideR (s : Str) (row : List PyData) (at_ other : Nat) : List PyData := mv row at_ ((if at_ < other then other - 1 else other) + if s = "above" then 1 else 0)
theorem beside_eq {s : Str} (hs : kind s = 2) {row : List PyData} {at_ other : Nat} (h : at_ < row.length) (ho : other < row.length) (hne : at_ ≠ other) (hl : row.length ≤ 30000) (S : Store) :
    F_beside_in [.d (.str s), .d (.tuple row), .d (.int (at_ : Nat)), .d (.int (other : Nat))] S = .ok (.d (.tuple (besideR s row at_ other))) S := by
  show endF (g_beside_in [some (.d (.str s)), some (.d (.tuple row)), some (.d (.int (at_ : Nat))), some (.d (.int (other : Nat))), none] S) = _
  have m1 := fun to ht => moved_mv (to := to) h ht hl S
  rcases kind2 hs with rfl | rfl
  · have q3 : eqG (.str "above") (.str "above") = some (dB true) := by kernel_rfl
    have q4 : besideR "above" row at_ other = mv row at_ ((if at_ < other then other - 1 else other) + 1) := by
      unfold besideR
      rw [if_pos rfl]
    unfold g_beside_in
    by_cases hlt : at_ < other
    · have e : (other : Int) - 1 + 1 = ((other - 1 + 1 : Nat) : Int) := by omega
      simp [hlt, q3, q4]
      rw [show (other : Int) = ((other - 1 + 1 : Nat) : Int) by omega, m1 _ (by omega)]
      simp
    · have e : (other : Int) + 1 = ((other + 1 : Nat) : Int) := by omega
      simp [hlt, q3, q4]
      rw [e, m1 _ (by omega)]
      simp
  · have q3 : eqG (.str "below") (.str "above") = some (dB false) := by kernel_rfl
    have q4 : besideR "below" row at_ other = mv row at_ (if at_ < other then other - 1 else other) := by
      unfold besideR
      rw [if_neg (show ¬ ("below" : Str) = "above" by decide +kernel)]
      rfl
    unfold g_beside_in
    by_cases hlt : at_ < other
    · have e : (other : Int) - 1 = ((other - 1 : Nat) : Int) := by omega
      simp [hlt, q3, q4]
      rw [e, m1 _ (by omega)]
      simp
    · simp [hlt, q3, q4]
      rw [m1 _ (by omega)]
      simp
def groupedR (row : List PyData) (at_ other : Nat) (n : PyData) : List PyData := match row[min at_ other]?, row[max at_ other]? with
  | some x, some y => row.take (min at_ other) ++ (row.drop (min at_ other + 1)).take (max at_ other - (min at_ other + 1)) ++ [.tuple [n, .tuple [x, y]]] ++ row.drop (max at_ other + 1)
  | _, _ => row
theorem grouped_eq {row : List PyData} {at_ other : Nat} {n : PyData} (h : at_ < row.length) (ho : other < row.length) (hne : at_ ≠ other) (hl : row.length ≤ 30000) (S : Store) :
    F_grouped_in [.d (.tuple row), .d (.int (at_ : Nat)), .d (.int (other : Nat)), .d n] S = .ok (.d (.tuple (groupedR row at_ other n))) S := by
  show endF (g_grouped_in [some (.d (.tuple row)), some (.d (.int (at_ : Nat))), some (.d (.int (other : Nat))), some (.d n), none, none, none] S) = _
  obtain ⟨lo, elo⟩ : ∃ lo, min at_ other = lo := ⟨_, rfl⟩
  obtain ⟨hi, ehi⟩ : ∃ hi, max at_ other = hi := ⟨_, rfl⟩
  have l1 : lo < row.length := by omega
  have l2 : hi < row.length := by omega
  have l3 : lo < hi := by omega
  have q1 : (if (other : Int) < (at_ : Int) then (other : Int) else (at_ : Int)) = (lo : Int) := by split <;> omega
  have q2 : (if (at_ : Int) < (other : Int) then (other : Int) else (at_ : Int)) = (hi : Int) := by split <;> omega
  have a1 := atI_nat l1
  have a2 := atI_nat l2
  have c1 : DL.cutD row none (some (lo : Int)) = _ := cut_to (Nat.le_of_lt l1)
  have c2 : DL.cutD row (some ((lo : Int) + 1)) (some (hi : Int)) = _ := cut_mid (lo := lo + 1) (hi := hi) (by omega) (by omega)
  have c3 : DL.cutD row (some ((hi : Int) + 1)) none = _ := cut_from (k := hi + 1) l2
  have t1 : (row.take lo).length ≤ 30000 := by rw [List.length_take]; omega
  have t2 : ((row.drop (lo + 1)).take (hi - (lo + 1))).length ≤ 30000 := by rw [List.length_take, List.length_drop]; omega
  have t3 : (row.drop (hi + 1)).length ≤ 30000 := by rw [List.length_drop]; omega
  have g1 : addG (.tuple (row.take lo)) (.tuple ((row.drop (lo + 1)).take (hi - (lo + 1)))) = _ := addG_tuple (by omega)
  have g2 : addG (.tuple (row.take lo ++ (row.drop (lo + 1)).take (hi - (lo + 1)))) (.tuple [.tuple [n, .tuple [row[lo], row[hi]]]]) = _ := addG_tuple (by rw [List.length_append]; simp only [List.length_singleton]; omega)
  have g3 : addG (.tuple (row.take lo ++ (row.drop (lo + 1)).take (hi - (lo + 1)) ++ [.tuple [n, .tuple [row[lo], row[hi]]]])) (.tuple (row.drop (hi + 1))) = _ := addG_tuple (by rw [List.length_append, List.length_append]; simp only [List.length_singleton]; omega)
  have hr : groupedR row at_ other n = row.take lo ++ (row.drop (lo + 1)).take (hi - (lo + 1)) ++ [.tuple [n, .tuple [row[lo], row[hi]]]] ++ row.drop (hi + 1) := by
    unfold groupedR
    rw [elo, ehi, List.getElem?_eq_getElem l1, List.getElem?_eq_getElem l2]
  rw [hr]
  have s1 : (parO 4 5 (minE (rdE 1) (rdE 2)) (maxE (rdE 1) (rdE 2))) [some (.d (.tuple row)), some (.d (.int (at_ : Nat))), some (.d (.int (other : Nat))), some (.d n), none, none, none] S = .next [some (.d (.tuple row)), some (.d (.int (at_ : Nat))), some (.d (.int (other : Nat))), some (.d n), some (.d (.int (lo : Nat))), some (.d (.int (hi : Nat))), none] S := by
    rw [← q1, ← q2]
    simp
  unfold g_grouped_in
  rw [seqS_ap, s1, RS.bind_next]
  simp only [List.append_assoc] at g2 g3
  simp [a1, a2, c1, c2, c3, g1, g2, g3]
  try simp [c1, c2, c3, g1, g2, g3]
end P

set_option Elab.async false
set_option linter.all false
set_option maxRecDepth 100000
set_option maxHeartbeats 4000000
/-! P14: a command on a drawing, the program's way. -/
namespace P
open PySem PySem.Spec PyProof.Rows L2 DL U

theorem way_dp : ∀ (n : Nat) {ys : List PyData} {k : Nat} {m : PyData} {w : List Nat}, cnAll ys ≤ n → wayAll k ys m = some w → w.length ≤ dpAll ys + 1
  | _, [], k, m, w, _, h => by rw [wayAll_nil] at h; cases h
  | 0, y :: ys, k, m, w, hc, h => by rw [cnAll_cons] at hc; omega
  | n + 1, y :: ys, k, m, w, hc, h => by
    rw [cnAll_cons] at hc
    rw [dpAll_cons]
    rw [wayAll_cons] at h
    by_cases hq : PyData.eqv (called y) m = true
    · rw [if_pos hq] at h
      cases h
      simp
    · rw [if_neg hq] at h
      cases q : wayI y m with
      | none =>
        simp only [q] at h
        have := way_dp n (by omega) h
        omega
      | some v =>
        simp only [q] at h
        cases h
        rcases form y with ⟨g, zs, rfl⟩ | ⟨h1, _⟩
        · rw [wayI_g] at q
          simp only [cnI_tup, cnAll_cons] at hc
          have := way_dp n (by omega) q
          simp only [List.length_cons, dpI_g]
          omega
        · unfold wayI at q
          split at q
          · exact absurd rfl (h1 _ _)
          · cases q
/-- the row at a way's end -/
theorem way_row {n : PyData} : ∀ (N : Nat) {ys : List PyData} {w : List Nat}, cnAll ys ≤ N → wfAll ys = true → (idsAll ys).Nodup → wayAll 0 ys n = some w →
    wfAll (rowAt ys w) = true ∧ (idsAll (rowAt ys w)).Nodup ∧ cnAll (rowAt ys w) ≤ cnAll ys ∧ spot (rowAt ys w) n = some (w.getLast?.getD 0) ∧ w.getLast?.getD 0 < (rowAt ys w).length
  | N, ys, w, hc, wf, nd, h => by
    obtain ⟨A, x, B, rfl, hA, hx⟩ := way_some h
    rcases hx with ⟨hq, rfl⟩ | ⟨hq, v, hv, rfl⟩
    · refine ⟨by simpa [rowAt] using wf, by simpa [rowAt] using nd, by simp [rowAt], ?_, by simp [rowAt]⟩
      simp only [rowAt]
      rw [spot_at (fun y hy => (hA y hy).1) hq]
      simp
    · have mx : x ∈ A ++ x :: B := by simp
      rcases wf_form ((wf_mem wf mx).1) with ⟨g, zs, rfl, _, hz⟩ | ⟨_, q2, _⟩
      · rw [wayI_g] at hv
        have hv0 := (way_len _ (Nat.le_refl _) hv).2
        obtain ⟨j, w', rfl⟩ : ∃ j w', v = j :: w' := by
          cases v with
          | nil => exact absurd rfl hv0
          | cons j w' => exact ⟨j, w', rfl⟩
        have gx : (A ++ .tuple [g, .tuple zs] :: B)[0 + A.length]? = some (.tuple [g, .tuple zs]) := by
          rw [Nat.zero_add, List.getElem?_append_right (Nat.le_refl _), Nat.sub_self]
          rfl
        have e1 : rowAt (A ++ .tuple [g, .tuple zs] :: B) ((0 + A.length) :: j :: w') = rowAt zs (j :: w') := by
          rw [rowAt, gx]
        have e2 : ((0 + A.length) :: j :: w').getLast?.getD 0 = (j :: w').getLast?.getD 0 := by
          rw [List.getLast?_cons_cons]
        have h1 := cn_mem mx
        simp only [cnI_tup, cnAll_cons] at h1
        have nz : (idsAll zs).Nodup := by
          rw [(all_app _ _).2.1, idsAll_cons, idsI_g] at nd
          exact (List.nodup_cons.mp (List.nodup_append.mp (List.nodup_append.mp nd).2.1).1).2
        cases N with
        | zero => omega
        | succ N =>
          obtain ⟨a, b, c, d, e⟩ := way_row N (by omega) hz nz hv
          rw [e1, e2]
          exact ⟨a, b, by omega, d, e⟩
      · rw [wayI_t q2] at hv
        cases hv
/-- what a command does in the row of its name -/
def rowP (s : Str) (r : List PyData) (tk : Bool) : List PyData → Nat → List PyData := fun row at_ => match r with
  | [_] => aloneR s row at_
  | [_, m] => match spot row m with
    | some o => besideR s row at_ o
    | none => row
  | [_, m, g] => match spot row m with
    | some o => if tk then row else groupedR row at_ o g
    | none => row
  | _ => row
theorem done_id {n : PyData} : ∀ (N : Nat) (ys : List PyData), cnAll ys ≤ N → doneMap (fun row _ => row) n ys = ys ∧ doneAll (fun row _ => row) n ys = ys
  | N, [], _ => by
    refine ⟨by rw [doneMap], ?_⟩
    unfold doneAll
    split <;> first | rfl | rw [doneMap]
  | 0, y :: ys, h => by rw [cnAll_cons] at h; omega
  | N + 1, y :: ys, h => by
    rw [cnAll_cons] at h
    have a := done_id (n := n) N ys (by omega)
    have b : doneI (fun row _ => row) n y = y := by
      rcases form y with ⟨g, zs, rfl⟩ | ⟨h1, _⟩
      · rw [doneI_g]
        simp only [cnI_tup, cnAll_cons] at h
        rw [(done_id (n := n) N zs (by omega)).2]
      · unfold doneI
        split
        · exact absurd rfl (h1 _ _)
        · rfl
    have c : doneMap (fun row _ => row) n (y :: ys) = y :: ys := by rw [doneMap, a.1, b]
    refine ⟨c, ?_⟩
    unfold doneAll
    split
    · rfl
    · exact c
/-- two of a row's things differ, so do their places -/
theorem spot_lt {row : List PyData} {n : PyData} {i : Nat} (h : spot row n = some i) : ∃ hl : i < row.length, PyData.eqv (called row[i]) n = true := by
  unfold spot at h
  obtain ⟨hl, h1, _⟩ := List.findIdx?_eq_some_iff_getElem.mp h
  exact ⟨hl, h1⟩
theorem spot_ne {row : List PyData} {n m : PyData} (w : wfAll row = true) (hn : isThing n = true) (hm : isThing m = true) (h : n ≠ m) {i j : Nat} (hi : spot row n = some i) (hj : spot row m = some j) : i ≠ j := by
  rintro rfl
  obtain ⟨l1, e1⟩ := spot_lt hi
  obtain ⟨l2, e2⟩ := spot_lt hj
  have k := called_key (wf_mem w (List.getElem_mem l1)).1
  exact h (((key_eqv (thing_key k) (thing_key hn)).mp e1).symm.trans ((key_eqv (thing_key k) (thing_key hm)).mp e2))
theorem last_at {w : List Nat} (h : w ≠ []) : atI (nums w) ((w.length : Int) - 1) = some (.int ((w.getLast?.getD 0 : Nat) : Int)) := by
  have hl := List.length_pos_iff.mpr h
  rw [show (w.length : Int) - 1 = ((w.length - 1 : Nat) : Int) by omega, atI_map (by omega)]
  congr 3
  rw [List.getLast?_eq_getElem?, List.getElem?_eq_getElem (by omega)]
  rfl
end P

set_option Elab.async false
set_option linter.all false
set_option maxRecDepth 100000
set_option maxHeartbeats 4000000
/-! P15: a command on a drawing. -/
namespace P
open PySem PySem.Spec PyProof.Rows L2 DL U

/-- is the third name taken -/
def takenB (ys : List PyData) : List PyData → Bool
  | [_, _, g] => (wayAll 0 ys g).isSome
  | _ => false
theorem same_row {n : PyData} (hn : isThing n = true) {ys : List PyData} (wf : wfAll ys = true) (nd : (idsAll ys).Nodup) {w : List Nat} (h : wayAll 0 ys n = some w) : withRow ys w (rowAt ys w) = ys := by
  have := ((edit hn (fun row _ => row) _ (Nat.le_refl (cnAll ys)) wf nd).2 w h).2.2
  rw [this]
  exact (done_id _ ys (Nat.le_refl _)).2
theorem behind_eq {s : Str} {n : PyData} {r : List PyData} (ha : (n :: r).all isName = true) (hnd : (n :: r).Nodup) (hk : kind s = (n :: r).length) {ys : List PyData} (wf : wfAll ys = true) (nd : (idsAll ys).Nodup) (hc : cnAll ys ≤ 30000) (hd : dpAll ys ≤ 30) (S : Store) :
    F_behind [.d (.tuple (.str s :: n :: r)), .d (.tuple ys)] S = .ok (.d (.tuple (doneAll (rowP s (n :: r) (takenB ys (n :: r))) n ys))) S := by
  have names : ∀ x, x ∈ n :: r → isThing x = true := fun x hx => name_thing (List.all_eq_true.mp ha x hx)
  have hn := names n List.mem_cons_self
  have hw := way_eq hn S 40 ys wf (by omega) (by omega)
  have c1 : DL.cutD (.str s :: n :: r) (some 1) none = n :: r := cut_from (k := 1) (by simp)
  have hed := edit hn (rowP s (n :: r) (takenB ys (n :: r))) _ (Nat.le_refl (cnAll ys)) wf nd
  have start : ∀ res, (seqS (ifS (isE (rdE 4)) (retS (rdE 1)) (nopS)) (seqS (parO 5 6 (callE (F_row_at) (asL [rdE 1, rdE 4])) (ixE (rdE 4) (subE (lenE (rdE 4)) (cE (.int 1))))) (seqS (ifS (eqE (lenE (rdE 3)) (cE (.int 1))) (retS (callE (F_with_row 40) (asL [rdE 1, rdE 4, callE (F_alone_in) (asL [rdE 2, rdE 5, rdE 6])]))) (nopS)) (seqS (asgF 7 (callE (F_index_in) (asL [rdE 5, ixE (rdE 3) (cE (.int 1))]))) (seqS (ifS (isE (rdE 7)) (retS (rdE 1)) (nopS)) (seqS (ifS (inE (rdE 2) (cE (.tuple [(.str ("above" : Str)), (.str ("below" : Str))]))) (retS (callE (F_with_row 40) (asL [rdE 1, rdE 4, callE (F_beside_in) (asL [rdE 2, rdE 5, rdE 6, rdE 7])]))) (nopS)) (seqS (ifS (isntE (callE (F_way_to 40) (asL [rdE 1, ixE (rdE 3) (cE (.int 2))]))) (retS (rdE 1)) (nopS)) (retS (callE (F_with_row 40) (asL [rdE 1, rdE 4, callE (F_grouped_in) (asL [rdE 5, rdE 6, rdE 7, ixE (rdE 3) (cE (.int 2))])])))))))))) [some (.d (.tuple (.str s :: n :: r))), some (.d (.tuple ys)), some (.d (.str s)), some (.d (.tuple (n :: r))), some (.d (wayD (wayAll 0 ys n))), none, none, none] S = .ret (.d res) S →
      F_behind [.d (.tuple (.str s :: n :: r)), .d (.tuple ys)] S = .ok (.d res) S := fun res h => by
    show endF (g_behind [some (.d (.tuple (.str s :: n :: r))), some (.d (.tuple ys)), none, none, none, none, none, none] S) = _
    unfold g_behind
    have s1 : (parO 2 3 (ixE (rdE 0) (cE (.int 0))) (slE (rdE 0) (some (cE (.int 1))) none)) [some (.d (.tuple (.str s :: n :: r))), some (.d (.tuple ys)), none, none, none, none, none, none] S = .next [some (.d (.tuple (.str s :: n :: r))), some (.d (.tuple ys)), some (.d (.str s)), some (.d (.tuple (n :: r))), none, none, none, none] S := by
      simp [c1]
    have s2 : (asgF 4 (callE (F_way_to 40) (asL [rdE 1, ixE (rdE 3) (cE (.int 0))]))) [some (.d (.tuple (.str s :: n :: r))), some (.d (.tuple ys)), some (.d (.str s)), some (.d (.tuple (n :: r))), none, none, none, none] S = .next [some (.d (.tuple (.str s :: n :: r))), some (.d (.tuple ys)), some (.d (.str s)), some (.d (.tuple (n :: r))), some (.d (wayD (wayAll 0 ys n))), none, none, none] S := by
      simp [hw]
    rw [seqS_ap, s1, RS.bind_next, seqS_ap, s2, RS.bind_next, h]
    rfl
  cases q : wayAll 0 ys n with
  | none =>
    obtain ⟨_, e1, e2⟩ := hed.1 q
    have e3 : doneAll (rowP s (n :: r) (takenB ys (n :: r))) n ys = ys := by
      unfold doneAll
      rw [e1]
      exact e2
    rw [e3]
    refine start _ ?_
    rw [q]
    simp [wayD, kIsN]
  | some w =>
    obtain ⟨_, hv, he⟩ := hed.2 w q
    obtain ⟨p1, p2, p3, p4, p5⟩ := way_row _ (Nat.le_refl (cnAll ys)) wf nd q
    have hl := way_dp _ (Nat.le_refl (cnAll ys)) q
    have h0 := (way_len _ (Nat.le_refl (cnAll ys)) q).2
    have r1 := row_at_eq hv S
    have la := last_at h0
    have hwr := fun row => with_row_eq S (row := row) w ys 40 hv (by omega) hc
    have hsame := same_row hn wf nd q
    have rl := cn_len (rowAt ys w)
    generalize hrow : rowAt ys w = row at *
    generalize hat : w.getLast?.getD 0 = at_ at *
    rw [← he]
    refine start _ ?_
    rw [q, wayD_some]
    have s3 : (ifS (isE (rdE 4)) (retS (rdE 1)) (nopS)) [some (.d (.tuple (.str s :: n :: r))), some (.d (.tuple ys)), some (.d (.str s)), some (.d (.tuple (n :: r))), some (.d (.tuple (nums w))), none, none, none] S = .next [some (.d (.tuple (.str s :: n :: r))), some (.d (.tuple ys)), some (.d (.str s)), some (.d (.tuple (n :: r))), some (.d (.tuple (nums w))), none, none, none] S := by
      simp [kIsN]
    have s4 : (parO 5 6 (callE (F_row_at) (asL [rdE 1, rdE 4])) (ixE (rdE 4) (subE (lenE (rdE 4)) (cE (.int 1))))) [some (.d (.tuple (.str s :: n :: r))), some (.d (.tuple ys)), some (.d (.str s)), some (.d (.tuple (n :: r))), some (.d (.tuple (nums w))), none, none, none] S = .next [some (.d (.tuple (.str s :: n :: r))), some (.d (.tuple ys)), some (.d (.str s)), some (.d (.tuple (n :: r))), some (.d (.tuple (nums w))), some (.d (.tuple row)), some (.d (.int (at_ : Nat))), none] S := by
      have hll : (nums w).length = w.length := by simp
      simp [r1, la]
    rw [seqS_ap, s3, RS.bind_next, seqS_ap, s4, RS.bind_next]
    match r, ha, hnd, hk with
    | [], ha, hnd, hk =>
      have al := alone_eq hk p1 p5 (by omega) S
      have hp : rowP s [n] (takenB ys [n]) row at_ = aloneR s row at_ := rfl
      rw [hp]
      simp [al, hwr]
    | [m], ha, hnd, hk =>
      have hm := names m (by simp)
      have ix := index_eq p1 hm S
      have hne : n ≠ m := fun z => by rw [z] at hnd; simp at hnd
      cases qs : spot row m with
      | none =>
        have hp : rowP s [n, m] (takenB ys [n, m]) row at_ = row := by simp [rowP, qs]
        rw [qs] at ix
        rw [hp, hsame]
        simp [ix, intO, kIsN]
      | some o =>
        have hp : rowP s [n, m] (takenB ys [n, m]) row at_ = besideR s row at_ o := by simp [rowP, qs]
        rw [qs] at ix
        have hb := beside_eq hk p5 (spot_lt qs).choose (spot_ne p1 hn hm hne p4 qs) (by omega) S
        have hin : inG false (.str s) (.tuple [.str "above", .str "below"]) = some (dB true) := by
          rcases kind2 hk with rfl | rfl <;> kernel_rfl
        rw [hp]
        simp [ix, intO, kIsN, hin, hb, hwr]
        try simp [hb, hwr]
    | [m, g], ha, hnd, hk =>
      have hm := names m (by simp)
      have hg := names g (by simp)
      have ix := index_eq p1 hm S
      have hne : n ≠ m := fun z => by rw [z] at hnd; simp at hnd
      have hin : inG false (.str s) (.tuple [.str "above", .str "below"]) = some (dB false) := by
        rw [kind3 hk]
        kernel_rfl
      have hwg := way_eq hg S 40 ys wf (by omega) (by omega)
      have a2 : atI [n, m, g] 2 = some g := atI_nat (xs := [n, m, g]) (k := 2) (by simp)
      cases qs : spot row m with
      | none =>
        have hp : rowP s [n, m, g] (takenB ys [n, m, g]) row at_ = row := by simp [rowP, qs]
        rw [qs] at ix
        rw [hp, hsame]
        simp [ix, intO, kIsN]
      | some o =>
        rw [qs] at ix
        cases qg : wayAll 0 ys g with
        | some v =>
          have hp : rowP s [n, m, g] (takenB ys [n, m, g]) row at_ = row := by simp [rowP, qs, takenB, qg]
          rw [qg] at hwg
          rw [hp, hsame]
          simp [ix, intO, kIsN, hin, a2, hwg, wayD_some]
        | none =>
          have hp : rowP s [n, m, g] (takenB ys [n, m, g]) row at_ = groupedR row at_ o g := by simp [rowP, qs, takenB, qg]
          rw [qg] at hwg
          have hb := grouped_eq (n := g) p5 (spot_lt qs).choose (spot_ne p1 hn hm hne p4 qs) (by omega) S
          rw [hp]
          simp [ix, intO, kIsN, hin, a2, hwg, wayD, hb, hwr]
          try simp [a2, hb, hwr]
    | _ :: _ :: _ :: _, ha, hnd, hk =>
      have := kind_le s
      simp at hk
      omega
end P

set_option Elab.async false
set_option linter.all false
set_option maxRecDepth 100000
set_option maxHeartbeats 4000000
/-! P16: the law's rows. -/
namespace P
open PySem PySem.Spec PyProof.Rows L2 DL U

theorem ints_shaped : ∀ {xs : List PyData}, (∀ x, x ∈ xs → ∃ i : Int, x = .int i) → SeqAt.shaped (.list xs) = true := fun {xs} h => by
  have l := lay_all (xs := xs) fun x hx => by obtain ⟨i, rfl⟩ := h x hx; simp [PyData.canLay0]
  have d := dep_all (n := 0) (xs := xs) fun x hx => by obtain ⟨i, rfl⟩ := h x hx; simp [PyData.depth]
  exact canLay_shaped (by simp only [PyData.canLay0]; exact l) (by simp only [PyData.depth]; omega)
/-- the test of the law's own search, by place -/
def atP (row : List PyData) (n : PyData) : PyData → Bool
  | .int i => match row[i.toNat]? with
    | some x => PyData.eqv (called x) n
    | none => false
  | _ => false
theorem rngL_cons (n : Nat) : rngL 0 n = (List.range n).map fun i => PyData.int ((i : Nat) : Int) := by
  unfold rngL
  simp
theorem found_head (row : List PyData) (n : PyData) : ((rngL 0 row.length).filter (atP row n)).head? = (spot row n).map fun i => .int (i : Nat) := by
  rw [List.head?_filter, rngL_cons, List.find?_map]
  have e : (List.range row.length).find? (atP row n ∘ fun i => PyData.int ((i : Nat) : Int)) = spot row n := by
    cases q : spot row n with
    | none =>
      rw [List.find?_eq_none]
      intro i hi
      have hl := List.mem_range.mp hi
      have := spot_none.mp q row[i] (List.getElem_mem hl)
      simp [atP, hl, this]
    | some i =>
      unfold spot at q
      obtain ⟨hl, h1, h2⟩ := List.findIdx?_eq_some_iff_getElem.mp q
      rw [List.find?_range_eq_some]
      refine ⟨by simp [atP, hl, h1], List.mem_range.mpr hl, fun j hj => ?_⟩
      have := h2 j hj
      simp [atP, show j < row.length by omega, this]
  rw [e]
theorem lspot_eq {row : List PyData} {n : PyData} (w : wfAll row = true) (hn : isThing n = true) (hl : row.length ≤ 30000) (S : Store) : F__law_spot_of [.d (.tuple row), .d n] S = .ok (.d (intO (spot row n))) S := by
  show endF (g__law_spot_of [some (.d (.tuple row)), some (.d n), none, none] S) = _
  have lc : lcD (tgN 3) (some c__law_spot_of_1) e__law_spot_of_1 [some (.d (.tuple row)), some (.d n), none, none] (rngL 0 row.length) [] S = .ok (.own ((rngL 0 row.length).filter (atP row n))) S := by
    refine lcD_filter _ (fun d hd => ?_) (by rw [rngL_len]; omega)
    rw [rngL_cons] at hd
    obtain ⟨i, hi, rfl⟩ := List.mem_map.mp hd
    have hlt := List.mem_range.mp hi
    have wi := (wf_mem w (List.getElem_mem hlt)).1
    have ha := atI_nat hlt
    refine ⟨_, rfl, ?_, ?_⟩
    · unfold c__law_spot_of_1
      simp [ha, lcalled_eq wi, eqG_sh (thing_sh (called_key wi)) (thing_sh hn), atP, hlt]
    · unfold e__law_spot_of_1
      simp
  have hh := found_head row n
  have hsh : SeqAt.shaped (.list ((rngL 0 row.length).filter (atP row n))) = true := ints_shaped fun x hx => by
    have := (List.mem_filter.mp hx).1
    rw [rngL_cons] at this
    obtain ⟨i, _, rfl⟩ := List.mem_map.mp this
    exact ⟨_, rfl⟩
  unfold g__law_spot_of
  cases q : spot row n with
  | none =>
    rw [q] at hh
    have hnil : (rngL 0 row.length).filter (atP row n) = [] := by simpa using hh
    rw [hnil] at lc hsh
    simp [rngK_nat (show row.length ≤ 100000 by omega), lc, neG_sh hsh shaped_nilL, eqv_nilL, intO]
  | some i =>
    rw [q] at hh
    obtain ⟨t, ht⟩ : ∃ t, (rngL 0 row.length).filter (atP row n) = .int (i : Nat) :: t := by
      cases z : (rngL 0 row.length).filter (atP row n) with
      | nil => rw [z] at hh; cases hh
      | cons a t =>
        rw [z] at hh
        simp at hh
        exact ⟨t, by rw [hh]⟩
    rw [ht] at lc hsh
    simp [rngK_nat (show row.length ≤ 100000 by omega), lc, neG_sh hsh shaped_nilL, eqv_nilL, intO]
/-- a name's place without another item -/
theorem spot_erase {A B : List PyData} {x m : PyData} (hx : PyData.eqv (called x) m = false) : spot (A ++ B) m = (spot (A ++ x :: B) m).map fun o => if A.length < o then o - 1 else o := by
  induction A with
  | nil =>
    simp only [List.nil_append, List.length_nil]
    unfold spot
    rw [List.findIdx?_cons, hx]
    cases List.findIdx? (fun x => PyData.eqv (called x) m) B <;> simp
  | cons a A ih =>
    unfold spot at ih ⊢
    rw [List.cons_append, List.cons_append, List.findIdx?_cons, List.findIdx?_cons]
    cases PyData.eqv (called a) m with
    | true => simp
    | false =>
      simp only [Bool.false_eq_true, if_false]
      rw [ih]
      cases List.findIdx? (fun x => PyData.eqv (called x) m) (A ++ x :: B) with
      | none => rfl
      | some o =>
        simp only [Option.map_some, List.length_cons]
        congr 1
        by_cases h : A.length < o
        · rw [if_pos h, if_pos (by omega)]
          omega
        · rw [if_neg h, if_neg (by omega)]
end P

set_option Elab.async false
set_option linter.all false
set_option maxRecDepth 100000
set_option maxHeartbeats 4000000
/-! P17: what the law does in a row is what the program does. -/
namespace P
open PySem PySem.Spec PyProof.Rows L2 DL U

theorem row_split {row : List PyData} {i : Nat} (h : i < row.length) : ∃ A x B, row = A ++ x :: B ∧ A.length = i :=
  ⟨row.take i, row[i], row.drop (i + 1), by rw [← List.drop_eq_getElem_cons h, List.take_append_drop], by rw [List.length_take]; omega⟩
theorem mv_split {A B : List PyData} {x : PyData} (to : Nat) : mv (A ++ x :: B) A.length to = put (A ++ B) to x := by
  unfold mv
  have e1 : (A ++ x :: B)[A.length]? = some x := by simp
  have e2 : (A ++ x :: B).eraseIdx A.length = A ++ B := by
    rw [List.eraseIdx_append_of_length_le (Nat.le_refl _), Nat.sub_self]
    rfl
  rw [e1]
  simp only
  rw [e2]
theorem put_end {L : List PyData} {x : PyData} : put L L.length x = L ++ [x] := by simp [put]
theorem put_zero {L : List PyData} {x : PyData} : put L 0 x = x :: L := by simp [put]
theorem put_mid {L D : List PyData} {z : PyData} : put (L ++ D) L.length z = L ++ [z] ++ D := by simp [put]
theorem put_back {A B : List PyData} {x : PyData} : put (A ++ B) A.length x = A ++ x :: B := by simp [put]
/-- what the law makes of a command in a row -/
def rowL (s : Str) (r : List PyData) (tk : Bool) (A : List PyData) (x : PyData) (B : List PyData) : List PyData := match r with
  | [_] => if s = "ungroup" then (match x with | .tuple [_, .tuple zs] => A ++ zs ++ B | _ => A ++ x :: B) else if s = "front" then A ++ B ++ [x] else if s = "back" then x :: (A ++ B)
    else if s = "up" then (if A.length + 1 < (A ++ x :: B).length then put (A ++ B) (A.length + 1) x else A ++ x :: B) else (if 0 < A.length then put (A ++ B) (A.length - 1) x else A ++ x :: B)
  | [_, m] => match spot (A ++ B) m with
    | some o => put (A ++ B) (o + if s = "above" then 1 else 0) x
    | none => A ++ x :: B
  | [_, m, g] => match spot (A ++ B) m with
    | some o => if tk then A ++ x :: B else (match (A ++ B)[o]? with
      | some y => put ((A ++ B).eraseIdx o) (max A.length (o + if A.length ≤ o then 1 else 0) - 1) (.tuple [g, .tuple (if o < A.length then [y, x] else [x, y])])
      | none => A ++ x :: B)
    | none => A ++ x :: B
  | _ => A ++ x :: B
theorem rowL_alone {s : Str} (hs : kind s = 1) {n : PyData} {tk : Bool} {A B : List PyData} {x : PyData} : rowL s [n] tk A x B = rowP s [n] tk (A ++ x :: B) A.length := by
  show _ = aloneR s (A ++ x :: B) A.length
  have l1 : (A ++ x :: B).length - 1 = (A ++ B).length := by simp
  rcases kind1 hs with rfl | rfl | rfl | rfl | rfl
  · unfold rowL aloneR
    simp only
    rw [if_neg (show ¬ ("front" : Str) = "ungroup" by decide +kernel), if_pos trivial, if_neg (show ¬ ("front" : Str) = "ungroup" by decide +kernel), if_pos trivial, mv_split, l1, put_end]
  · unfold rowL aloneR
    simp only
    rw [if_neg (show ¬ ("back" : Str) = "ungroup" by decide +kernel), if_neg (show ¬ ("back" : Str) = "front" by decide +kernel), if_pos trivial, if_neg (show ¬ ("back" : Str) = "ungroup" by decide +kernel), if_neg (show ¬ ("back" : Str) = "front" by decide +kernel), if_pos trivial, mv_split, put_zero]
  · unfold rowL aloneR
    simp only
    rw [if_neg (show ¬ ("up" : Str) = "ungroup" by decide +kernel), if_neg (show ¬ ("up" : Str) = "front" by decide +kernel), if_neg (show ¬ ("up" : Str) = "back" by decide +kernel), if_pos trivial,
      if_neg (show ¬ ("up" : Str) = "ungroup" by decide +kernel), if_neg (show ¬ ("up" : Str) = "front" by decide +kernel), if_neg (show ¬ ("up" : Str) = "back" by decide +kernel), if_pos trivial, mv_split, l1]
    by_cases h : A.length + 1 < (A ++ x :: B).length
    · rw [if_pos h]
      simp only [List.length_append, List.length_cons] at h ⊢
      rw [Nat.min_eq_left (by omega)]
    · rw [if_neg h]
      have hB : B = [] := List.eq_nil_of_length_eq_zero (by
        have e : (A ++ x :: B).length = A.length + (B.length + 1) := by simp
        omega)
      subst hB
      rw [Nat.min_eq_right (by simp)]
      simp [put]
  · unfold rowL aloneR
    simp only
    rw [if_neg (show ¬ ("down" : Str) = "ungroup" by decide +kernel), if_neg (show ¬ ("down" : Str) = "front" by decide +kernel), if_neg (show ¬ ("down" : Str) = "back" by decide +kernel), if_neg (show ¬ ("down" : Str) = "up" by decide +kernel),
      if_neg (show ¬ ("down" : Str) = "ungroup" by decide +kernel), if_neg (show ¬ ("down" : Str) = "front" by decide +kernel), if_neg (show ¬ ("down" : Str) = "back" by decide +kernel), if_neg (show ¬ ("down" : Str) = "up" by decide +kernel), mv_split]
    by_cases h : 0 < A.length
    · rw [if_pos h]
    · rw [if_neg h]
      have hA : A = [] := List.eq_nil_of_length_eq_zero (by omega)
      subst hA
      simp [put]
  · unfold rowL aloneR ungr
    simp only
    rw [if_pos trivial, if_pos trivial]
    have e1 : (A ++ x :: B)[A.length]? = some x := by simp
    rw [e1]
    split
    · rename_i g zs
      simp
    · rename_i h
      split
      · rename_i g zs e
        cases e
        exact absurd rfl (h _ _)
      · rfl
theorem rowL_beside {s : Str} {n m : PyData} {tk : Bool} {A B : List PyData} {x : PyData} (hx : PyData.eqv (called x) m = false) : rowL s [n, m] tk A x B = rowP s [n, m] tk (A ++ x :: B) A.length := by
  unfold rowL rowP
  simp only
  rw [spot_erase hx]
  cases q : spot (A ++ x :: B) m with
  | none => rfl
  | some o =>
    simp only [Option.map_some]
    unfold besideR
    rw [mv_split]
theorem get_l {A B : List PyData} {o : Nat} (h : o < A.length) (x : PyData) : (A ++ x :: B)[o]? = (A ++ B)[o]? := by
  rw [List.getElem?_append_left h, List.getElem?_append_left h]
theorem get_r {A B : List PyData} {o : Nat} (h : A.length < o) (x : PyData) : (A ++ x :: B)[o]? = (A ++ B)[o - 1]? := by
  rw [List.getElem?_append_right (by omega), List.getElem?_append_right (by omega)]
  obtain ⟨k, rfl⟩ : ∃ k, o = A.length + 1 + k := ⟨o - (A.length + 1), by omega⟩
  rw [show A.length + 1 + k - A.length = k + 1 by omega, show A.length + 1 + k - 1 - A.length = k by omega]
  rfl
theorem rowL_group {s : Str} {n m g : PyData} {tk : Bool} {A B : List PyData} {x : PyData} (hx : PyData.eqv (called x) m = false) : rowL s [n, m, g] tk A x B = rowP s [n, m, g] tk (A ++ x :: B) A.length := by
  unfold rowL rowP
  simp only
  rw [spot_erase hx]
  cases q : spot (A ++ x :: B) m with
  | none => rfl
  | some o =>
    obtain ⟨ho, he⟩ := spot_lt q
    have hne : o ≠ A.length := by
      rintro rfl
      have : (A ++ x :: B)[A.length] = x := by simp
      rw [this, hx] at he
      cases he
    simp only [Option.map_some]
    cases tk with
    | true => rfl
    | false =>
      simp only [Bool.false_eq_true, if_false]
      have hx1 : (A ++ x :: B)[A.length]? = some x := by simp
      unfold groupedR
      by_cases h : A.length < o
      · -- the other lies behind
        rw [if_pos h, show min A.length o = A.length by omega, show max A.length o = o by omega, hx1]
        obtain ⟨y, C, D, e, hC⟩ : ∃ y C D, B = C ++ y :: D ∧ C.length = o - (A.length + 1) := by
          have hb : o - (A.length + 1) < B.length := by
            simp at ho
            omega
          obtain ⟨C, y, D, e, hC⟩ := row_split hb
          exact ⟨y, C, D, e, hC⟩
        subst e
        have ol : o = A.length + 1 + C.length := by omega
        have gy : (A ++ x :: (C ++ y :: D))[o]? = some y := by
          rw [show A ++ x :: (C ++ y :: D) = (A ++ x :: C) ++ y :: D by simp, List.getElem?_append_right (by simp; omega)]
          rw [show o - (A ++ x :: C).length = 0 by simp; omega]
          rfl
        have gy2 : (A ++ (C ++ y :: D))[o - 1]? = some y := by
          rw [← get_r h x]
          exact gy
        rw [gy, gy2]
        simp only
        rw [if_pos (by omega), if_neg (by omega)]
        have em : max A.length (o - 1 + 1) - 1 = (A ++ C).length := by simp; omega
        have er : (A ++ (C ++ y :: D)).eraseIdx (o - 1) = (A ++ C) ++ D := by
          rw [show A ++ (C ++ y :: D) = (A ++ C) ++ y :: D by simp, List.eraseIdx_append_of_length_le (by simp; omega)]
          rw [show o - 1 - (A ++ C).length = 0 by simp; omega]
          rfl
        rw [em, er]
        have t1 : (A ++ x :: (C ++ y :: D)).take A.length = A := by simp
        have t2 : ((A ++ x :: (C ++ y :: D)).drop (A.length + 1)).take (o - (A.length + 1)) = C := by
          rw [show A ++ x :: (C ++ y :: D) = (A ++ [x]) ++ (C ++ y :: D) by simp, List.drop_append_of_le_length (by simp), ← hC]
          simp
        have t3 : (A ++ x :: (C ++ y :: D)).drop (o + 1) = D := by
          rw [show A ++ x :: (C ++ y :: D) = (A ++ x :: C ++ [y]) ++ D by simp, List.drop_append_of_le_length (by simp; omega)]
          rw [List.drop_eq_nil_of_le (by simp; omega)]
          rfl
        rw [t1, t2, t3, put_mid]
      · have h2 : o < A.length := by omega
        rw [if_neg h, show min A.length o = o by omega, show max A.length o = A.length by omega, hx1]
        obtain ⟨C, y, D, e, hC⟩ := row_split h2
        subst e
        have gy : ((C ++ y :: D) ++ x :: B)[o]? = some y := by
          rw [List.append_assoc, List.getElem?_append_right (by omega), ← hC, Nat.sub_self]
          rfl
        rw [gy, ← get_l h2 x, gy]
        simp only
        rw [if_neg (show ¬ (C ++ y :: D).length ≤ o by omega), if_pos h2]
        have em : max (C ++ y :: D).length (o + 0) - 1 = (C ++ D).length := by simp; omega
        have er : ((C ++ y :: D) ++ B).eraseIdx o = (C ++ D) ++ B := by
          rw [List.append_assoc, List.eraseIdx_append_of_length_le (by omega), ← hC, Nat.sub_self]
          simp
        rw [em, er]
        have t1 : ((C ++ y :: D) ++ x :: B).take o = C := by
          rw [List.append_assoc, ← hC]
          simp
        have t2 : (((C ++ y :: D) ++ x :: B).drop (o + 1)).take ((C ++ y :: D).length - (o + 1)) = D := by
          rw [show (C ++ y :: D) ++ x :: B = (C ++ [y]) ++ (D ++ x :: B) by simp, List.drop_append_of_le_length (by simp; omega), List.drop_eq_nil_of_le (by simp; omega)]
          rw [show (C ++ y :: D).length - (o + 1) = D.length by simp; omega]
          simp
        have t3 : ((C ++ y :: D) ++ x :: B).drop ((C ++ y :: D).length + 1) = B := by
          rw [show (C ++ y :: D) ++ x :: B = ((C ++ y :: D) ++ [x]) ++ B by simp, List.drop_append_of_le_length (by simp; omega), List.drop_eq_nil_of_le (by simp; omega)]
          rfl
        rw [t1, t2, t3, put_mid]
end P

set_option Elab.async false
set_option linter.all false
set_option maxRecDepth 100000
set_option maxHeartbeats 4000000
/-! P18: the eight words; the law's command in a row. -/
namespace P
open PySem PySem.Spec PyProof.Rows L2 DL U

@[simp] theorem w_front_front : eqG (.str ("front" : Str)) (.str ("front" : Str)) = some (dB true) := by kernel_rfl
@[simp] theorem w_front_back : eqG (.str ("front" : Str)) (.str ("back" : Str)) = some (dB false) := by kernel_rfl
@[simp] theorem w_front_up : eqG (.str ("front" : Str)) (.str ("up" : Str)) = some (dB false) := by kernel_rfl
@[simp] theorem w_front_down : eqG (.str ("front" : Str)) (.str ("down" : Str)) = some (dB false) := by kernel_rfl
@[simp] theorem w_front_ungroup : eqG (.str ("front" : Str)) (.str ("ungroup" : Str)) = some (dB false) := by kernel_rfl
@[simp] theorem w_front_above : eqG (.str ("front" : Str)) (.str ("above" : Str)) = some (dB false) := by kernel_rfl
@[simp] theorem w_front_below : eqG (.str ("front" : Str)) (.str ("below" : Str)) = some (dB false) := by kernel_rfl
@[simp] theorem w_front_group : eqG (.str ("front" : Str)) (.str ("group" : Str)) = some (dB false) := by kernel_rfl
@[simp] theorem w_back_front : eqG (.str ("back" : Str)) (.str ("front" : Str)) = some (dB false) := by kernel_rfl
@[simp] theorem w_back_back : eqG (.str ("back" : Str)) (.str ("back" : Str)) = some (dB true) := by kernel_rfl
@[simp] theorem w_back_up : eqG (.str ("back" : Str)) (.str ("up" : Str)) = some (dB false) := by kernel_rfl
@[simp] theorem w_back_down : eqG (.str ("back" : Str)) (.str ("down" : Str)) = some (dB false) := by kernel_rfl
@[simp] theorem w_back_ungroup : eqG (.str ("back" : Str)) (.str ("ungroup" : Str)) = some (dB false) := by kernel_rfl
@[simp] theorem w_back_above : eqG (.str ("back" : Str)) (.str ("above" : Str)) = some (dB false) := by kernel_rfl
@[simp] theorem w_back_below : eqG (.str ("back" : Str)) (.str ("below" : Str)) = some (dB false) := by kernel_rfl
@[simp] theorem w_back_group : eqG (.str ("back" : Str)) (.str ("group" : Str)) = some (dB false) := by kernel_rfl
@[simp] theorem w_up_front : eqG (.str ("up" : Str)) (.str ("front" : Str)) = some (dB false) := by kernel_rfl
@[simp] theorem w_up_back : eqG (.str ("up" : Str)) (.str ("back" : Str)) = some (dB false) := by kernel_rfl
@[simp] theorem w_up_up : eqG (.str ("up" : Str)) (.str ("up" : Str)) = some (dB true) := by kernel_rfl
@[simp] theorem w_up_down : eqG (.str ("up" : Str)) (.str ("down" : Str)) = some (dB false) := by kernel_rfl
@[simp] theorem w_up_ungroup : eqG (.str ("up" : Str)) (.str ("ungroup" : Str)) = some (dB false) := by kernel_rfl
@[simp] theorem w_up_above : eqG (.str ("up" : Str)) (.str ("above" : Str)) = some (dB false) := by kernel_rfl
@[simp] theorem w_up_below : eqG (.str ("up" : Str)) (.str ("below" : Str)) = some (dB false) := by kernel_rfl
@[simp] theorem w_up_group : eqG (.str ("up" : Str)) (.str ("group" : Str)) = some (dB false) := by kernel_rfl
@[simp] theorem w_down_front : eqG (.str ("down" : Str)) (.str ("front" : Str)) = some (dB false) := by kernel_rfl
@[simp] theorem w_down_back : eqG (.str ("down" : Str)) (.str ("back" : Str)) = some (dB false) := by kernel_rfl
@[simp] theorem w_down_up : eqG (.str ("down" : Str)) (.str ("up" : Str)) = some (dB false) := by kernel_rfl
@[simp] theorem w_down_down : eqG (.str ("down" : Str)) (.str ("down" : Str)) = some (dB true) := by kernel_rfl
@[simp] theorem w_down_ungroup : eqG (.str ("down" : Str)) (.str ("ungroup" : Str)) = some (dB false) := by kernel_rfl
@[simp] theorem w_down_above : eqG (.str ("down" : Str)) (.str ("above" : Str)) = some (dB false) := by kernel_rfl
@[simp] theorem w_down_below : eqG (.str ("down" : Str)) (.str ("below" : Str)) = some (dB false) := by kernel_rfl
@[simp] theorem w_down_group : eqG (.str ("down" : Str)) (.str ("group" : Str)) = some (dB false) := by kernel_rfl
@[simp] theorem w_ungroup_front : eqG (.str ("ungroup" : Str)) (.str ("front" : Str)) = some (dB false) := by kernel_rfl
@[simp] theorem w_ungroup_back : eqG (.str ("ungroup" : Str)) (.str ("back" : Str)) = some (dB false) := by kernel_rfl
@[simp] theorem w_ungroup_up : eqG (.str ("ungroup" : Str)) (.str ("up" : Str)) = some (dB false) := by kernel_rfl
@[simp] theorem w_ungroup_down : eqG (.str ("ungroup" : Str)) (.str ("down" : Str)) = some (dB false) := by kernel_rfl
@[simp] theorem w_ungroup_ungroup : eqG (.str ("ungroup" : Str)) (.str ("ungroup" : Str)) = some (dB true) := by kernel_rfl
@[simp] theorem w_ungroup_above : eqG (.str ("ungroup" : Str)) (.str ("above" : Str)) = some (dB false) := by kernel_rfl
@[simp] theorem w_ungroup_below : eqG (.str ("ungroup" : Str)) (.str ("below" : Str)) = some (dB false) := by kernel_rfl
@[simp] theorem w_ungroup_group : eqG (.str ("ungroup" : Str)) (.str ("group" : Str)) = some (dB false) := by kernel_rfl
@[simp] theorem w_above_front : eqG (.str ("above" : Str)) (.str ("front" : Str)) = some (dB false) := by kernel_rfl
@[simp] theorem w_above_back : eqG (.str ("above" : Str)) (.str ("back" : Str)) = some (dB false) := by kernel_rfl
@[simp] theorem w_above_up : eqG (.str ("above" : Str)) (.str ("up" : Str)) = some (dB false) := by kernel_rfl
@[simp] theorem w_above_down : eqG (.str ("above" : Str)) (.str ("down" : Str)) = some (dB false) := by kernel_rfl
@[simp] theorem w_above_ungroup : eqG (.str ("above" : Str)) (.str ("ungroup" : Str)) = some (dB false) := by kernel_rfl
@[simp] theorem w_above_above : eqG (.str ("above" : Str)) (.str ("above" : Str)) = some (dB true) := by kernel_rfl
@[simp] theorem w_above_below : eqG (.str ("above" : Str)) (.str ("below" : Str)) = some (dB false) := by kernel_rfl
@[simp] theorem w_above_group : eqG (.str ("above" : Str)) (.str ("group" : Str)) = some (dB false) := by kernel_rfl
@[simp] theorem w_below_front : eqG (.str ("below" : Str)) (.str ("front" : Str)) = some (dB false) := by kernel_rfl
@[simp] theorem w_below_back : eqG (.str ("below" : Str)) (.str ("back" : Str)) = some (dB false) := by kernel_rfl
@[simp] theorem w_below_up : eqG (.str ("below" : Str)) (.str ("up" : Str)) = some (dB false) := by kernel_rfl
@[simp] theorem w_below_down : eqG (.str ("below" : Str)) (.str ("down" : Str)) = some (dB false) := by kernel_rfl
@[simp] theorem w_below_ungroup : eqG (.str ("below" : Str)) (.str ("ungroup" : Str)) = some (dB false) := by kernel_rfl
@[simp] theorem w_below_above : eqG (.str ("below" : Str)) (.str ("above" : Str)) = some (dB false) := by kernel_rfl
@[simp] theorem w_below_below : eqG (.str ("below" : Str)) (.str ("below" : Str)) = some (dB true) := by kernel_rfl
@[simp] theorem w_below_group : eqG (.str ("below" : Str)) (.str ("group" : Str)) = some (dB false) := by kernel_rfl
@[simp] theorem w_group_front : eqG (.str ("group" : Str)) (.str ("front" : Str)) = some (dB false) := by kernel_rfl
@[simp] theorem w_group_back : eqG (.str ("group" : Str)) (.str ("back" : Str)) = some (dB false) := by kernel_rfl
@[simp] theorem w_group_up : eqG (.str ("group" : Str)) (.str ("up" : Str)) = some (dB false) := by kernel_rfl
@[simp] theorem w_group_down : eqG (.str ("group" : Str)) (.str ("down" : Str)) = some (dB false) := by kernel_rfl
@[simp] theorem w_group_ungroup : eqG (.str ("group" : Str)) (.str ("ungroup" : Str)) = some (dB false) := by kernel_rfl
@[simp] theorem w_group_above : eqG (.str ("group" : Str)) (.str ("above" : Str)) = some (dB false) := by kernel_rfl
@[simp] theorem w_group_below : eqG (.str ("group" : Str)) (.str ("below" : Str)) = some (dB false) := by kernel_rfl
@[simp] theorem w_group_group : eqG (.str ("group" : Str)) (.str ("group" : Str)) = some (dB true) := by kernel_rfl
@[simp] theorem wi_front_up : inG false (.str ("front" : Str)) (.tuple [.str ("up" : Str), .str ("down" : Str)]) = some (dB false) := by kernel_rfl
@[simp] theorem wi_front_above : inG false (.str ("front" : Str)) (.tuple [.str ("above" : Str), .str ("below" : Str)]) = some (dB false) := by kernel_rfl
@[simp] theorem wi_front_front : inG false (.str ("front" : Str)) (.tuple [.str ("front" : Str), .str ("back" : Str)]) = some (dB true) := by kernel_rfl
@[simp] theorem wi_back_up : inG false (.str ("back" : Str)) (.tuple [.str ("up" : Str), .str ("down" : Str)]) = some (dB false) := by kernel_rfl
@[simp] theorem wi_back_above : inG false (.str ("back" : Str)) (.tuple [.str ("above" : Str), .str ("below" : Str)]) = some (dB false) := by kernel_rfl
@[simp] theorem wi_back_front : inG false (.str ("back" : Str)) (.tuple [.str ("front" : Str), .str ("back" : Str)]) = some (dB true) := by kernel_rfl
@[simp] theorem wi_up_up : inG false (.str ("up" : Str)) (.tuple [.str ("up" : Str), .str ("down" : Str)]) = some (dB true) := by kernel_rfl
@[simp] theorem wi_up_above : inG false (.str ("up" : Str)) (.tuple [.str ("above" : Str), .str ("below" : Str)]) = some (dB false) := by kernel_rfl
@[simp] theorem wi_up_front : inG false (.str ("up" : Str)) (.tuple [.str ("front" : Str), .str ("back" : Str)]) = some (dB false) := by kernel_rfl
@[simp] theorem wi_down_up : inG false (.str ("down" : Str)) (.tuple [.str ("up" : Str), .str ("down" : Str)]) = some (dB true) := by kernel_rfl
@[simp] theorem wi_down_above : inG false (.str ("down" : Str)) (.tuple [.str ("above" : Str), .str ("below" : Str)]) = some (dB false) := by kernel_rfl
@[simp] theorem wi_down_front : inG false (.str ("down" : Str)) (.tuple [.str ("front" : Str), .str ("back" : Str)]) = some (dB false) := by kernel_rfl
@[simp] theorem wi_ungroup_up : inG false (.str ("ungroup" : Str)) (.tuple [.str ("up" : Str), .str ("down" : Str)]) = some (dB false) := by kernel_rfl
@[simp] theorem wi_ungroup_above : inG false (.str ("ungroup" : Str)) (.tuple [.str ("above" : Str), .str ("below" : Str)]) = some (dB false) := by kernel_rfl
@[simp] theorem wi_ungroup_front : inG false (.str ("ungroup" : Str)) (.tuple [.str ("front" : Str), .str ("back" : Str)]) = some (dB false) := by kernel_rfl
@[simp] theorem wi_above_up : inG false (.str ("above" : Str)) (.tuple [.str ("up" : Str), .str ("down" : Str)]) = some (dB false) := by kernel_rfl
@[simp] theorem wi_above_above : inG false (.str ("above" : Str)) (.tuple [.str ("above" : Str), .str ("below" : Str)]) = some (dB true) := by kernel_rfl
@[simp] theorem wi_above_front : inG false (.str ("above" : Str)) (.tuple [.str ("front" : Str), .str ("back" : Str)]) = some (dB false) := by kernel_rfl
@[simp] theorem wi_below_up : inG false (.str ("below" : Str)) (.tuple [.str ("up" : Str), .str ("down" : Str)]) = some (dB false) := by kernel_rfl
@[simp] theorem wi_below_above : inG false (.str ("below" : Str)) (.tuple [.str ("above" : Str), .str ("below" : Str)]) = some (dB true) := by kernel_rfl
@[simp] theorem wi_below_front : inG false (.str ("below" : Str)) (.tuple [.str ("front" : Str), .str ("back" : Str)]) = some (dB false) := by kernel_rfl
@[simp] theorem wi_group_up : inG false (.str ("group" : Str)) (.tuple [.str ("up" : Str), .str ("down" : Str)]) = some (dB false) := by kernel_rfl
@[simp] theorem wi_group_above : inG false (.str ("group" : Str)) (.tuple [.str ("above" : Str), .str ("below" : Str)]) = some (dB false) := by kernel_rfl
@[simp] theorem wi_group_front : inG false (.str ("group" : Str)) (.tuple [.str ("front" : Str), .str ("back" : Str)]) = some (dB false) := by kernel_rfl
@[simp] theorem n_front_back : ¬ ("front" : Str) = "back" := by decide +kernel
@[simp] theorem n_front_up : ¬ ("front" : Str) = "up" := by decide +kernel
@[simp] theorem n_front_down : ¬ ("front" : Str) = "down" := by decide +kernel
@[simp] theorem n_front_ungroup : ¬ ("front" : Str) = "ungroup" := by decide +kernel
@[simp] theorem n_front_above : ¬ ("front" : Str) = "above" := by decide +kernel
@[simp] theorem n_front_below : ¬ ("front" : Str) = "below" := by decide +kernel
@[simp] theorem n_front_group : ¬ ("front" : Str) = "group" := by decide +kernel
@[simp] theorem n_back_front : ¬ ("back" : Str) = "front" := by decide +kernel
@[simp] theorem n_back_up : ¬ ("back" : Str) = "up" := by decide +kernel
@[simp] theorem n_back_down : ¬ ("back" : Str) = "down" := by decide +kernel
@[simp] theorem n_back_ungroup : ¬ ("back" : Str) = "ungroup" := by decide +kernel
@[simp] theorem n_back_above : ¬ ("back" : Str) = "above" := by decide +kernel
@[simp] theorem n_back_below : ¬ ("back" : Str) = "below" := by decide +kernel
@[simp] theorem n_back_group : ¬ ("back" : Str) = "group" := by decide +kernel
@[simp] theorem n_up_front : ¬ ("up" : Str) = "front" := by decide +kernel
@[simp] theorem n_up_back : ¬ ("up" : Str) = "back" := by decide +kernel
@[simp] theorem n_up_down : ¬ ("up" : Str) = "down" := by decide +kernel
@[simp] theorem n_up_ungroup : ¬ ("up" : Str) = "ungroup" := by decide +kernel
@[simp] theorem n_up_above : ¬ ("up" : Str) = "above" := by decide +kernel
@[simp] theorem n_up_below : ¬ ("up" : Str) = "below" := by decide +kernel
@[simp] theorem n_up_group : ¬ ("up" : Str) = "group" := by decide +kernel
@[simp] theorem n_down_front : ¬ ("down" : Str) = "front" := by decide +kernel
@[simp] theorem n_down_back : ¬ ("down" : Str) = "back" := by decide +kernel
@[simp] theorem n_down_up : ¬ ("down" : Str) = "up" := by decide +kernel
@[simp] theorem n_down_ungroup : ¬ ("down" : Str) = "ungroup" := by decide +kernel
@[simp] theorem n_down_above : ¬ ("down" : Str) = "above" := by decide +kernel
@[simp] theorem n_down_below : ¬ ("down" : Str) = "below" := by decide +kernel
@[simp] theorem n_down_group : ¬ ("down" : Str) = "group" := by decide +kernel
@[simp] theorem n_ungroup_front : ¬ ("ungroup" : Str) = "front" := by decide +kernel
@[simp] theorem n_ungroup_back : ¬ ("ungroup" : Str) = "back" := by decide +kernel
@[simp] theorem n_ungroup_up : ¬ ("ungroup" : Str) = "up" := by decide +kernel
@[simp] theorem n_ungroup_down : ¬ ("ungroup" : Str) = "down" := by decide +kernel
@[simp] theorem n_ungroup_above : ¬ ("ungroup" : Str) = "above" := by decide +kernel
@[simp] theorem n_ungroup_below : ¬ ("ungroup" : Str) = "below" := by decide +kernel
@[simp] theorem n_ungroup_group : ¬ ("ungroup" : Str) = "group" := by decide +kernel
@[simp] theorem n_above_front : ¬ ("above" : Str) = "front" := by decide +kernel
@[simp] theorem n_above_back : ¬ ("above" : Str) = "back" := by decide +kernel
@[simp] theorem n_above_up : ¬ ("above" : Str) = "up" := by decide +kernel
@[simp] theorem n_above_down : ¬ ("above" : Str) = "down" := by decide +kernel
@[simp] theorem n_above_ungroup : ¬ ("above" : Str) = "ungroup" := by decide +kernel
@[simp] theorem n_above_below : ¬ ("above" : Str) = "below" := by decide +kernel
@[simp] theorem n_above_group : ¬ ("above" : Str) = "group" := by decide +kernel
@[simp] theorem n_below_front : ¬ ("below" : Str) = "front" := by decide +kernel
@[simp] theorem n_below_back : ¬ ("below" : Str) = "back" := by decide +kernel
@[simp] theorem n_below_up : ¬ ("below" : Str) = "up" := by decide +kernel
@[simp] theorem n_below_down : ¬ ("below" : Str) = "down" := by decide +kernel
@[simp] theorem n_below_ungroup : ¬ ("below" : Str) = "ungroup" := by decide +kernel
@[simp] theorem n_below_above : ¬ ("below" : Str) = "above" := by decide +kernel
@[simp] theorem n_below_group : ¬ ("below" : Str) = "group" := by decide +kernel
@[simp] theorem n_group_front : ¬ ("group" : Str) = "front" := by decide +kernel
@[simp] theorem n_group_back : ¬ ("group" : Str) = "back" := by decide +kernel
@[simp] theorem n_group_up : ¬ ("group" : Str) = "up" := by decide +kernel
@[simp] theorem n_group_down : ¬ ("group" : Str) = "down" := by decide +kernel
@[simp] theorem n_group_ungroup : ¬ ("group" : Str) = "ungroup" := by decide +kernel
@[simp] theorem n_group_above : ¬ ("group" : Str) = "above" := by decide +kernel
@[simp] theorem n_group_below : ¬ ("group" : Str) = "below" := by decide +kernel
/-- the law's statements behind the first two -/
noncomputable def lrowRest : DS := seqS (ifS (eqE (rdE 3) (cE (.str ("ungroup" : Str)))) (retS (ifE (isiE "tuple" (rdE 5)) (addE (addE (slE (rdE 1) none (some (rdE 4))) (ixE (rdE 5) (cE (.int 1)))) (slE (rdE 1) (some (addE (rdE 4) (cE (.int 1)))) none)) (rdE 1))) (nopS)) (seqS (ifS (eqE (rdE 3) (cE (.str ("front" : Str)))) (retS (addE (rdE 6) (tupE [rdE 5]))) (nopS)) (seqS (ifS (eqE (rdE 3) (cE (.str ("back" : Str)))) (retS (addE (tupE [rdE 5]) (rdE 6))) (nopS)) (seqS (ifS (inE (rdE 3) (tupE [cE (.str ("up" : Str)), cE (.str ("down" : Str))])) (seqS (asgF 7 (ifE (eqE (rdE 3) (cE (.str ("up" : Str)))) (addE (rdE 4) (cE (.int 1))) (subE (rdE 4) (cE (.int 1))))) (retS (ifE (chE leG ltG (cE (.int 0)) (rdE 7) (lenE (rdE 1))) (addE (addE (slE (rdE 6) none (some (rdE 7))) (tupE [rdE 5])) (slE (rdE 6) (some (rdE 7)) none)) (rdE 1)))) (nopS)) (seqS (asgF 8 (callE (F__law_spot_of) (asL [rdE 6, ixE (rdE 0) (cE (.int 2))]))) (seqS (ifS (isE (rdE 8)) (retS (rdE 1)) (nopS)) (seqS (ifS (inE (rdE 3) (tupE [cE (.str ("above" : Str)), cE (.str ("below" : Str))])) (seqS (asgF 8 (addE (rdE 8) (intE (eqE (rdE 3) (cE (.str ("above" : Str))))))) (retS (addE (addE (slE (rdE 6) none (some (rdE 8))) (tupE [rdE 5])) (slE (rdE 6) (some (rdE 8)) none)))) (nopS)) (seqS (ifS (inE (ixE (rdE 0) (cE (.int 3))) (rdE 2)) (retS (rdE 1)) (nopS)) (seqS (asgF 9 (ifE (ltE (rdE 8) (rdE 4)) (tupE [ixE (rdE 6) (rdE 8), rdE 5]) (tupE [rdE 5, ixE (rdE 6) (rdE 8)]))) (seqS (asgF 10 (addE (slE (rdE 6) none (some (rdE 8))) (slE (rdE 6) (some (addE (rdE 8) (cE (.int 1)))) none))) (seqS (asgF 8 (subE (maxE (rdE 4) (addE (rdE 8) (intE (geE (rdE 8) (rdE 4))))) (cE (.int 1)))) (retS (addE (addE (slE (rdE 10) none (some (rdE 8))) (tupE [tupE [ixE (rdE 0) (cE (.int 3)), rdE 9]])) (slE (rdE 10) (some (rdE 8)) none)))))))))))))
theorem lrow_start {s : Str} {n : PyData} {r taken A B : List PyData} {x : PyData} (hn : isThing n = true) (w : wfAll (A ++ x :: B) = true) (hs : spot (A ++ x :: B) n = some A.length) (hl : cnAll (A ++ x :: B) ≤ 30000) (S : Store) {res : PyData}
    (h : lrowRest [some (.d (.tuple (.str s :: n :: r))), some (.d (.tuple (A ++ x :: B))), some (.d (.list taken)), some (.d (.str s)), some (.d (.int (A.length : Nat))), some (.d x), some (.d (.tuple (A ++ B))), none, none, none, none] S = .ret (.d res) S) :
    F__law_in_row [.d (.tuple (.str s :: n :: r)), .d (.tuple (A ++ x :: B)), .d (.list taken)] S = .ok (.d res) S := by
  have rl := cn_len (A ++ x :: B)
  have ls := lspot_eq w hn (by omega) S
  rw [hs] at ls
  have ls' : F__law_spot_of [.d (.tuple (A ++ x :: B)), .d n] S = .ok (.d (.int ((A.length : Nat) : Int))) S := ls
  clear ls
  have hA : A.length < (A ++ x :: B).length := by simp
  have hx : atI (A ++ x :: B) (A.length : Int) = some x := by
    rw [atI_nat hA]
    simp
  have c1 : DL.cutD (A ++ x :: B) none (some (A.length : Int)) = A := by
    rw [cut_to (by simp)]
    simp
  have c2 : DL.cutD (A ++ x :: B) (some ((A.length : Int) + 1)) none = B := by
    have : DL.cutD (A ++ x :: B) (some ((A.length : Int) + 1)) none = _ := cut_from (k := A.length + 1) (by simp)
    rw [this, show A ++ x :: B = (A ++ [x]) ++ B by simp, List.drop_append_of_le_length (by simp), List.drop_eq_nil_of_le (by simp)]
    rfl
  simp only [List.length_append, List.length_cons] at rl
  have a1 : addG (.tuple A) (.tuple B) = _ := addG_tuple (by omega)
  show endF (g__law_in_row [some (.d (.tuple (.str s :: n :: r))), some (.d (.tuple (A ++ x :: B))), some (.d (.list taken)), none, none, none, none, none, none, none, none] S) = _
  unfold g__law_in_row
  have s1 : (parO 3 4 (ixE (rdE 0) (cE (.int 0))) (callE (F__law_spot_of) (asL [rdE 1, ixE (rdE 0) (cE (.int 1))]))) [some (.d (.tuple (.str s :: n :: r))), some (.d (.tuple (A ++ x :: B))), some (.d (.list taken)), none, none, none, none, none, none, none, none] S = .next [some (.d (.tuple (.str s :: n :: r))), some (.d (.tuple (A ++ x :: B))), some (.d (.list taken)), some (.d (.str s)), some (.d (.int (A.length : Nat))), none, none, none, none, none, none] S := by
    simp only [parO_ap, RE2_ap, rdE_ap, cE_ap, List.getElem?_cons_zero, List.getElem?_cons_succ, read_d, RE.bind_ok, kIx_d, ixG_tuple, atI_zero, atI_one, Option.map_some, toRE_some, RE.bindS_ok, callE_ap, asL_cons, asL_nil, RE.bindA_ok, RA.bindA_ok, RA.bind_ok, fixed_d, ls', kept_d, List.set_cons_succ, List.set_cons_zero]
    rfl
  have s2 : (parO 5 6 (ixE (rdE 1) (rdE 4)) (addE (slE (rdE 1) none (some (rdE 4))) (slE (rdE 1) (some (addE (rdE 4) (cE (.int 1)))) none))) [some (.d (.tuple (.str s :: n :: r))), some (.d (.tuple (A ++ x :: B))), some (.d (.list taken)), some (.d (.str s)), some (.d (.int (A.length : Nat))), none, none, none, none, none, none] S = .next [some (.d (.tuple (.str s :: n :: r))), some (.d (.tuple (A ++ x :: B))), some (.d (.list taken)), some (.d (.str s)), some (.d (.int (A.length : Nat))), some (.d x), some (.d (.tuple (A ++ B))), none, none, none, none] S := by
    simp [hx, c1, c2, a1]
  rw [seqS_ap, s1, RS.bind_next, seqS_ap, s2, RS.bind_next]
  have h' := h
  unfold lrowRest at h'
  rw [h']
  rfl

theorem cut_l {A B : List PyData} {x : PyData} : DL.cutD (A ++ x :: B) none (some (A.length : Int)) = A := by
  rw [cut_to (by simp)]
  simp
theorem cut_r {A B : List PyData} {x : PyData} : DL.cutD (A ++ x :: B) (some ((A.length : Int) + 1)) none = B := by
  have : DL.cutD (A ++ x :: B) (some ((A.length : Int) + 1)) none = _ := cut_from (k := A.length + 1) (by simp)
  rw [this, show A ++ x :: B = (A ++ [x]) ++ B by simp, List.drop_append_of_le_length (by simp), List.drop_eq_nil_of_le (by simp)]
  rfl
theorem put_steps {R : List PyData} {k : Nat} {z : PyData} (hk : k ≤ R.length) (hl : R.length ≤ 60000) : DL.cutD R none (some (k : Int)) = R.take k ∧ DL.cutD R (some (k : Int)) none = R.drop k ∧ addG (.tuple (R.take k)) (.tuple [z]) = some (.d (.tuple (R.take k ++ [z]))) ∧
    addG (.tuple (R.take k ++ [z])) (.tuple (R.drop k)) = some (.d (.tuple (put R k z))) := by
  refine ⟨cut_to hk, cut_from hk, addG_tuple (by simp; omega), ?_⟩
  rw [addG_tuple (by simp; omega)]
  rfl
abbrev lenv (s : Str) (n : PyData) (r taken A B : List PyData) (x : PyData) : DL.Env := [some (.d (.tuple (.str s :: n :: r))), some (.d (.tuple (A ++ x :: B))), some (.d (.list taken)), some (.d (.str s)), some (.d (.int (A.length : Nat))), some (.d x), some (.d (.tuple (A ++ B))), none, none, none, none]
theorem lrow_alone {s : Str} (hs : kind s = 1) {n : PyData} {taken A B : List PyData} {x : PyData} (w : wfAll (A ++ x :: B) = true) (hl : cnAll (A ++ x :: B) ≤ 30000) (S : Store) {tk : Bool} :
    lrowRest (lenv s n [] taken A B x) S = .ret (.d (.tuple (rowL s [n] tk A x B))) S := by
  have rl := cn_len (A ++ x :: B)
  simp only [List.length_append, List.length_cons] at rl
  have a1 : addG (.tuple (A ++ B)) (.tuple [x]) = some (.d (.tuple (A ++ B ++ [x]))) := addG_tuple (by simp; omega)
  have a2 : addG (.tuple [x]) (.tuple (A ++ B)) = some (.d (.tuple ([x] ++ (A ++ B)))) := addG_tuple (by simp; omega)
  rcases kind1 hs with rfl | rfl | rfl | rfl | rfl
  · unfold lrowRest
    simp [rowL, a1]
  · unfold lrowRest
    simp [rowL, a2]
  · unfold lrowRest
    by_cases hB : A.length + 1 < A.length + (B.length + 1)
    · have h0 : (0 : Int) ≤ (A.length : Int) + 1 := by omega
      have h1 : (A.length : Int) + 1 < (A.length : Int) + ((B.length : Int) + 1) := by omega
      have hr : rowL "up" [n] tk A x B = put (A ++ B) (A.length + 1) x := by simp [rowL, hB]
      have lR : (A ++ B).length = A.length + B.length := by simp
      rw [hr]
      unfold lenv
      generalize A ++ B = R at lR ⊢
      obtain ⟨f1, f2, f3, f4⟩ := put_steps (R := R) (k := A.length + 1) (z := x) (by omega) (by omega)
      rw [show ((A.length + 1 : Nat) : Int) = (A.length : Int) + 1 by omega] at f1 f2
      simp [h0, h1, f1, f2, f3, f4]
    · have h0 : (0 : Int) ≤ (A.length : Int) + 1 := by omega
      have h1 : ¬ (A.length : Int) + 1 < (A.length : Int) + ((B.length : Int) + 1) := by omega
      simp [rowL, h0, h1, hB]
  · unfold lrowRest
    by_cases hA : 0 < A.length
    · have e : (A.length : Int) - 1 = ((A.length - 1 : Nat) : Int) := by omega
      have h0 : (0 : Int) ≤ ((A.length - 1 : Nat) : Int) := by omega
      have h1 : ((A.length - 1 : Nat) : Int) < (A.length : Int) + ((B.length : Int) + 1) := by omega
      have hr : rowL "down" [n] tk A x B = put (A ++ B) (A.length - 1) x := by simp [rowL, hA]
      have lR : (A ++ B).length = A.length + B.length := by simp
      rw [hr]
      unfold lenv
      generalize A ++ B = R at lR ⊢
      obtain ⟨f1, f2, f3, f4⟩ := put_steps (R := R) (k := A.length - 1) (z := x) (by omega) (by omega)
      simp [e, h0, h1, f1, f2, f3, f4]
    · have h0 : ¬ (1 : Int) ≤ (A.length : Int) := by omega
      simp [rowL, h0, hA]
  · unfold lrowRest
    rcases wf_form ((wf_mem w (show x ∈ A ++ x :: B by simp)).1) with ⟨g, zs, rfl, _, _⟩ | ⟨_, t2, _⟩
    · have hm := cn_mem (show PyData.tuple [g, .tuple zs] ∈ A ++ PyData.tuple [g, .tuple zs] :: B by simp)
      simp only [cnI_tup, cnAll_cons] at hm
      have hz := cn_len zs
      have g1 : addG (.tuple A) (.tuple zs) = _ := addG_tuple (by omega)
      have g2 : addG (.tuple (A ++ zs)) (.tuple B) = _ := addG_tuple (by simp; omega)
      simp only [List.append_assoc] at g2
      simp [rowL, cut_l, cut_r, g1, g2]
    · have h4 : ¬ (tyD x = "tuple") := by cases x <;> first | (simp; done) | cases t2
      have h5 : (tyD x == "tuple") = false := by rw [beq_eq_false_iff_ne]; exact h4
      have hu : rowL "ungroup" [n] tk A x B = A ++ x :: B := by
        unfold rowL
        simp only
        rw [if_pos trivial]
        split
        · cases t2
        · rfl
      simp [hu, h4, h5]
theorem lrow_beside {s : Str} (hs : kind s = 2) {n m : PyData} (hm : isThing m = true) {taken A B : List PyData} {x : PyData} (w : wfAll (A ++ x :: B) = true) (hl : cnAll (A ++ x :: B) ≤ 30000) (S : Store) {tk : Bool} :
    lrowRest (lenv s n [m] taken A B x) S = .ret (.d (.tuple (rowL s [n, m] tk A x B))) S := by
  have rl := cn_len (A ++ x :: B)
  simp only [List.length_append, List.length_cons] at rl
  have wr : wfAll (A ++ B) = true := by
    rw [(all_app _ _).1, wfAll_cons] at w
    rw [(all_app _ _).1]
    simp only [Bool.and_eq_true] at w ⊢
    exact ⟨w.1, w.2.2⟩
  have ls := lspot_eq (n := m) wr hm (by simp; omega) S
  have a2 : atI [.str s, n, m] 2 = some m := atI_nat (xs := [.str s, n, m]) (k := 2) (by simp)
  cases q : spot (A ++ B) m with
  | none =>
    rw [q] at ls
    have hr : rowL s [n, m] tk A x B = A ++ x :: B := by simp [rowL, q]
    rw [hr]
    rcases kind2 hs with rfl | rfl
    · unfold lrowRest
      simp [a2, ls, intO, kIsN]
    · unfold lrowRest
      simp [a2, ls, intO, kIsN]
  | some o =>
    rw [q] at ls
    obtain ⟨ho, _⟩ := spot_lt q
    simp only [List.length_append] at ho
    rcases kind2 hs with rfl | rfl
    · have hr : rowL "above" [n, m] tk A x B = put (A ++ B) (o + 1) x := by simp [rowL, q]
      have lR : (A ++ B).length = A.length + B.length := by simp
      rw [hr]
      unfold lenv
      generalize A ++ B = R at lR ls ⊢
      obtain ⟨f1, f2, f3, f4⟩ := put_steps (R := R) (k := o + 1) (z := x) (by omega) (by omega)
      rw [show ((o + 1 : Nat) : Int) = (o : Int) + 1 by omega] at f1 f2
      unfold lrowRest
      simp [a2, ls, intO, kIsN, f1, f2, f3, f4]
    · have hr : rowL "below" [n, m] tk A x B = put (A ++ B) o x := by simp [rowL, q]
      have lR : (A ++ B).length = A.length + B.length := by simp
      rw [hr]
      unfold lenv
      generalize A ++ B = R at lR ls ⊢
      obtain ⟨f1, f2, f3, f4⟩ := put_steps (R := R) (k := o) (z := x) (by omega) (by omega)
      unfold lrowRest
      simp [a2, ls, intO, kIsN, f1, f2, f3, f4]
theorem lrow_group {n m g : PyData} (hm : isThing m = true) {taken A B : List PyData} {x : PyData} (w : wfAll (A ++ x :: B) = true) (hl : cnAll (A ++ x :: B) ≤ 30000) (S : Store) {tk : Bool}
    (hg : inG false g (.list taken) = some (dB tk)) : lrowRest (lenv "group" n [m, g] taken A B x) S = .ret (.d (.tuple (rowL "group" [n, m, g] tk A x B))) S := by
  have rl := cn_len (A ++ x :: B)
  simp only [List.length_append, List.length_cons] at rl
  have wr : wfAll (A ++ B) = true := by
    rw [(all_app _ _).1, wfAll_cons] at w
    rw [(all_app _ _).1]
    simp only [Bool.and_eq_true] at w ⊢
    exact ⟨w.1, w.2.2⟩
  have ls := lspot_eq (n := m) wr hm (by simp; omega) S
  have a2 : atI [.str "group", n, m, g] 2 = some m := atI_nat (xs := [.str "group", n, m, g]) (k := 2) (by simp)
  have a3 : atI [.str "group", n, m, g] 3 = some g := atI_nat (xs := [.str "group", n, m, g]) (k := 3) (by simp)
  cases q : spot (A ++ B) m with
  | none =>
    rw [q] at ls
    have hr : rowL "group" [n, m, g] tk A x B = A ++ x :: B := by simp [rowL, q]
    rw [hr]
    unfold lrowRest
    simp [a2, ls, intO, kIsN]
  | some o =>
    rw [q] at ls
    obtain ⟨ho, _⟩ := spot_lt q
    cases tk with
    | true =>
      have hr : rowL "group" [n, m, g] true A x B = A ++ x :: B := by simp [rowL, q]
      rw [hr]
      unfold lrowRest
      simp [a2, a3, ls, intO, kIsN, hg]
    | false =>
      have gy : (A ++ B)[o]? = some (A ++ B)[o] := List.getElem?_eq_getElem ho
      have ai : atI (A ++ B) (o : Int) = some (A ++ B)[o] := atI_nat ho
      generalize (A ++ B)[o] = y at gy ai
      have hr : rowL "group" [n, m, g] false A x B = put ((A ++ B).eraseIdx o) (max A.length (o + if A.length ≤ o then 1 else 0) - 1) (.tuple [g, .tuple (if o < A.length then [y, x] else [x, y])]) := by
        simp [rowL, q, gy]
      have le : ((A ++ B).eraseIdx o).length = A.length + B.length - 1 := by rw [List.length_eraseIdx, if_pos ho]; simp
      simp only [List.length_append] at ho
      have c1 : DL.cutD (A ++ B) none (some (o : Int)) = _ := cut_to (k := o) (by simp; omega)
      have c2 : DL.cutD (A ++ B) (some ((o : Int) + 1)) none = _ := cut_from (k := o + 1) (by simp; omega)
      have er : (A ++ B).take o ++ (A ++ B).drop (o + 1) = (A ++ B).eraseIdx o := (List.eraseIdx_eq_take_drop_succ (A ++ B) o).symm
      have g0 : addG (.tuple ((A ++ B).take o)) (.tuple ((A ++ B).drop (o + 1))) = some (.d (.tuple ((A ++ B).eraseIdx o))) := by
        rw [addG_tuple (by simp; omega), er]
      generalize hR : (A ++ B).eraseIdx o = R at hr le g0
      have fin : ∀ (k : Nat) (z : PyData), k ≤ R.length → DL.cutD R none (some (k : Int)) = R.take k ∧ DL.cutD R (some (k : Int)) none = R.drop k ∧ addG (.tuple (R.take k)) (.tuple [z]) = some (.d (.tuple (R.take k ++ [z]))) ∧
          addG (.tuple (R.take k ++ [z])) (.tuple (R.drop k)) = some (.d (.tuple (put R k z))) := fun k z hk => by
        refine ⟨cut_to hk, cut_from hk, addG_tuple (by simp; omega), ?_⟩
        rw [addG_tuple (by simp; omega)]
        rfl
      rw [hr]
      unfold lrowRest
      by_cases hlt : o < A.length
      · have hmx : (max A.length (o + if A.length ≤ o then 1 else 0) - 1) = A.length - 1 := by
          rw [if_neg (by omega)]
          omega
        have i1 : (o : Int) < (A.length : Int) := by omega
        have i2 : ¬ (A.length : Int) ≤ (o : Int) := by omega
        have i3 : ¬ (A.length : Int) < (o : Int) := by omega
        have i4 : (A.length : Int) - 1 = ((A.length - 1 : Nat) : Int) := by omega
        obtain ⟨f1, f2, f3, f4⟩ := fin (A.length - 1) (.tuple [g, .tuple [y, x]]) (by omega)
        rw [hmx, if_pos hlt]
        simp [a2, a3, ls, intO, kIsN, hg, ai, c1, c2, g0, hlt, i1, i2, i3]
        rw [i4]
        simp [f1, f2, f3, f4]
      · have hmx : (max A.length (o + if A.length ≤ o then 1 else 0) - 1) = o := by
          rw [if_pos (by omega)]
          omega
        have i1 : ¬ (o : Int) < (A.length : Int) := by omega
        have i2 : (A.length : Int) ≤ (o : Int) := by omega
        have i3 : (A.length : Int) < (o : Int) + 1 := by omega
        obtain ⟨f1, f2, f3, f4⟩ := fin o (.tuple [g, .tuple [x, y]]) (by omega)
        rw [hmx, if_neg hlt]
        simp [a2, a3, ls, intO, kIsN, hg, ai, c1, c2, g0, hlt, i1, i2, i3]
        try simp [f1, f2, f3, f4]
/-- the law's command in a row does what the program's does -/
theorem lrow_eq {s : Str} {n : PyData} {r : List PyData} (ha : (n :: r).all isName = true) (hnd : (n :: r).Nodup) (hk : kind s = (n :: r).length) {row taken : List PyData} {i : Nat} (w : wfAll row = true) (hs : spot row n = some i) (hl : cnAll row ≤ 30000) {tk : Bool}
    (ht : ∀ m g, r = [m, g] → inG false g (.list taken) = some (dB tk)) (S : Store) :
    F__law_in_row [.d (.tuple (.str s :: n :: r)), .d (.tuple row), .d (.list taken)] S = .ok (.d (.tuple (rowP s (n :: r) tk row i))) S := by
  have names : ∀ x, x ∈ n :: r → isThing x = true := fun x hx => name_thing (List.all_eq_true.mp ha x hx)
  have hn := names n List.mem_cons_self
  obtain ⟨hi, he⟩ := spot_lt hs
  obtain ⟨A, x, B, rfl, rfl⟩ := row_split hi
  have ex : (A ++ x :: B)[A.length] = x := by simp
  rw [ex] at he
  have kx := called_key (wf_mem w (show x ∈ A ++ x :: B by simp)).1
  have en := (key_eqv (thing_key kx) (thing_key hn)).mp he
  have other : ∀ m, m ∈ r → PyData.eqv (called x) m = false := fun m hm => by
    rw [← Bool.not_eq_true, key_eqv (thing_key kx) (thing_key (names m (List.mem_cons_of_mem _ hm))), en]
    rintro rfl
    exact (List.nodup_cons.mp hnd).1 hm
  refine lrow_start hn w hs hl S ?_
  match r, ha, hnd, hk, ht with
  | [], ha, hnd, hk, ht =>
    rw [← rowL_alone hk]
    exact lrow_alone hk w hl S
  | [m], ha, hnd, hk, ht =>
    rw [← rowL_beside (other m (by simp))]
    exact lrow_beside hk (names m (by simp)) w hl S
  | [m, g], ha, hnd, hk, ht =>
    rw [← rowL_group (other m (by simp))]
    have := kind3 hk
    subst this
    exact lrow_group (names m (by simp)) w hl S (ht m g rfl)
  | _ :: _ :: _ :: _, ha, hnd, hk, ht =>
    have := kind_le s
    simp at hk
    omega
end P

set_option Elab.async false
set_option linter.all false
set_option maxRecDepth 100000
set_option maxHeartbeats 4000000
/-! P19: the law's command on a drawing; what a command keeps. -/
namespace P
open PySem PySem.Spec PyProof.Rows L2 DL U

theorem ldone_go {c n : PyData} {taken : List PyData} {f : List PyData → Nat → List PyData} (S : Store) (F : DF) (e1 : Option EV) : ∀ (ys acc : List PyData) (e4 : Option EV), wfAll ys = true → acc.length + ys.length ≤ 60000 →
    (∀ g zs, .tuple [g, .tuple zs] ∈ ys → F [.d c, .d (.tuple zs), .d (.list taken)] S = .ok (.d (.tuple (doneAll f n zs))) S) →
    ∃ e4', forD (tgN 4) (b__law_done_1 F) ys [some (.d c), e1, some (.d (.list taken)), some (.d (.tuple acc)), e4] S = .next [some (.d c), e1, some (.d (.list taken)), some (.d (.tuple (acc ++ doneMap f n ys))), e4'] S
  | [], acc, e4, _, _, _ => ⟨e4, by rw [doneMap]; simp [forD]⟩
  | y :: ys, acc, e4, w, hl, hF => by
    rw [wfAll_cons, Bool.and_eq_true] at w
    rw [List.length_cons] at hl
    obtain ⟨e4', h⟩ := ldone_go S F e1 ys (acc ++ [doneI f n y]) (some (.d (doneI f n y))) w.2 (by simp; omega) fun g zs hm => hF g zs (List.mem_cons_of_mem _ hm)
    have hb : b__law_done_1 F [some (.d c), e1, some (.d (.list taken)), some (.d (.tuple acc)), some (.d y)] S = .next [some (.d c), e1, some (.d (.list taken)), some (.d (.tuple (acc ++ [doneI f n y]))), some (.d (doneI f n y))] S := by
      have g1 : addG (.tuple acc) (.tuple [doneI f n y]) = _ := addG_tuple (by simp; omega)
      unfold b__law_done_1
      rcases wf_form w.1 with ⟨g, zs, rfl, _, _⟩ | ⟨_, t2, _⟩
      · have := hF g zs (by simp)
        rw [doneI_g] at g1 ⊢
        simp [this, g1]
      · rw [doneI_t t2] at g1 ⊢
        have h4 : ¬ (tyD y = "tuple") := by cases y <;> first | (simp; done) | cases t2
        have h5 : (tyD y == "tuple") = false := by rw [beq_eq_false_iff_ne]; exact h4
        simp [h4, h5, g1]
    refine ⟨e4', ?_⟩
    unfold forD
    simp only [tgN_ap, List.set_cons_succ, List.set_cons_zero, hb]
    rw [h, doneMap]
    simp
theorem ldone_eq {s : Str} {n : PyData} {r : List PyData} (ha : (n :: r).all isName = true) (hnd : (n :: r).Nodup) (hk : kind s = (n :: r).length) {taken : List PyData} {tk : Bool}
    (ht : ∀ m g, r = [m, g] → inG false g (.list taken) = some (dB tk)) (S : Store) : ∀ (d : Nat) (ys : List PyData), wfAll ys = true → dpAll ys < d → cnAll ys ≤ 30000 →
    F__law_done d [.d (.tuple (.str s :: n :: r)), .d (.tuple ys), .d (.list taken)] S = .ok (.d (.tuple (doneAll (rowP s (n :: r) tk) n ys))) S
  | 0, ys, _, h, _ => by omega
  | d + 1, ys, w, h, hc => by
    have hn : isThing n = true := name_thing (List.all_eq_true.mp ha n (by simp))
    have hl := cn_len ys
    have ls := lspot_eq w hn (by omega) S
    show endF (g__law_done (F__law_done d) [some (.d (.tuple (.str s :: n :: r))), some (.d (.tuple ys)), some (.d (.list taken)), none, none] S) = _
    unfold g__law_done doneAll
    cases q : spot ys n with
    | some i =>
      rw [q] at ls
      have lr := lrow_eq ha hnd hk w q hc ht S
      simp [ls, lr, intO, kIsN]
    | none =>
      rw [q] at ls
      obtain ⟨e4', hg⟩ := ldone_go (c := .tuple (.str s :: n :: r)) (taken := taken) (f := rowP s (n :: r) tk) (n := n) S (F__law_done d) (some (.d (.tuple ys))) ys [] none w (by simp; omega) fun g zs hm => by
        obtain ⟨h1, h2, _⟩ := wf_mem w hm
        rw [wfI_g, Bool.and_eq_true] at h1
        rw [dpI_g] at h2
        have := cn_mem hm
        simp only [cnI_tup, cnAll_cons] at this
        exact ldone_eq ha hnd hk ht S d zs h1.2 (by omega) (by omega)
      simp only [List.nil_append] at hg
      simp [ls, intO, kIsN, hg]
/-! ### what a command keeps -/
open Classical in
theorem perm_of_count {xs ys : List PyData} (h : ∀ a, xs.count a = ys.count a) : xs.Perm ys := List.perm_iff_count.mpr h
structure Keep (G : List PyData) (R R' : List PyData) : Prop where
  wf : wfAll R' = true
  th : (thAll R').Perm (thAll R)
  ids : ∃ add del, (add = [] ∨ ∃ g, g ∈ G ∧ add = [g]) ∧ (del ++ idsAll R').Perm (add ++ idsAll R)
theorem all_perm {xs ys : List PyData} (h : xs.Perm ys) : wfAll xs = wfAll ys ∧ (thAll xs).Perm (thAll ys) ∧ (idsAll xs).Perm (idsAll ys) := by
  induction h with
  | nil => exact ⟨rfl, .refl _, .refl _⟩
  | cons x _ ih => exact ⟨by rw [wfAll_cons, wfAll_cons, ih.1], by rw [thAll_cons, thAll_cons]; exact ih.2.1.append_left _, by rw [idsAll_cons, idsAll_cons]; exact ih.2.2.append_left _⟩
  | swap x y l =>
    refine ⟨?_, ?_, ?_⟩
    · simp only [wfAll_cons]
      rw [← Bool.and_assoc, ← Bool.and_assoc, Bool.and_comm (wfI y)]
    · simp only [thAll_cons]
      rw [← List.append_assoc, ← List.append_assoc]
      exact List.perm_append_comm.append_right _
    · simp only [idsAll_cons]
      rw [← List.append_assoc, ← List.append_assoc]
      exact List.perm_append_comm.append_right _
  | trans _ _ a b => exact ⟨a.1.trans b.1, a.2.1.trans b.2.1, a.2.2.trans b.2.2⟩
theorem Keep.perm {G R R' : List PyData} (w : wfAll R = true) (h : R'.Perm R) : Keep G R R' := by
  obtain ⟨a, b, c⟩ := all_perm h
  exact ⟨a.trans w, b, [], [], .inl rfl, by simpa using c⟩
theorem put_perm {R : List PyData} {to : Nat} {x : PyData} : (put R to x).Perm (x :: R) := by
  unfold put
  rw [List.append_assoc, List.singleton_append]
  refine List.perm_middle.trans ?_
  rw [List.take_append_drop]
theorem mv_perm (row : List PyData) (at_ to : Nat) : (mv row at_ to).Perm row := by
  unfold mv
  cases q : row[at_]? with
  | none => exact .refl _
  | some x =>
    obtain ⟨h, e⟩ := List.getElem?_eq_some_iff.mp q
    subst e
    exact put_perm.trans (perm_erase row at_ h)
/-- a name that may come -/
def newN (r : List PyData) (tk : Bool) : List PyData := match r with
  | [_, g] => if tk then [] else [g]
  | _ => []
open Classical in
theorem rowP_keep {s : Str} {n : PyData} {r : List PyData} (ha : (n :: r).all isName = true) (hk : kind s = (n :: r).length) {row : List PyData} {i : Nat} (w : wfAll row = true) {tk : Bool} (hi : i < row.length)
    (hne : ∀ m o, m ∈ r → spot row m = some o → i ≠ o) : Keep (newN r tk) row (rowP s (n :: r) tk row i) := by
  match r, ha, hk, hne with
  | [], ha, hk, hne =>
    show Keep _ row (aloneR s row i)
    unfold aloneR
    split
    · unfold ungr
      obtain ⟨A, x, B, rfl, rfl⟩ := row_split hi
      have e1 : (A ++ x :: B)[A.length]? = some x := by simp
      rw [e1]
      split
      · rename_i g zs e
        cases e
        have et : (A ++ PyData.tuple [g, PyData.tuple zs] :: B).take A.length = A := by simp
        have ed : (A ++ PyData.tuple [g, PyData.tuple zs] :: B).drop (A.length + 1) = B := by
          rw [show A ++ PyData.tuple [g, PyData.tuple zs] :: B = (A ++ [PyData.tuple [g, PyData.tuple zs]]) ++ B by simp, List.drop_append_of_le_length (by simp), List.drop_eq_nil_of_le (by simp)]
          rfl
        rw [et, ed]
        rw [(all_app _ _).1, wfAll_cons, wfI_g] at w
        simp only [Bool.and_eq_true] at w
        refine ⟨?_, ?_, [], [g], .inl rfl, ?_⟩
        · rw [(all_app _ _).1, (all_app _ _).1, w.1, w.2.1.2, w.2.2]
          rfl
        · rw [(all_app _ _).2.2.2.1, (all_app _ _).2.2.2.1, (all_app _ _).2.2.2.1, thAll_cons, thI_g, List.append_assoc]
        · rw [(all_app _ _).2.1, (all_app _ _).2.1, (all_app _ _).2.1, idsAll_cons, idsI_g]
          simp only [List.nil_append, List.singleton_append, List.append_assoc, List.cons_append]
          exact List.perm_middle.symm
      · exact Keep.perm w (.refl _)
    · split
      · exact Keep.perm w (mv_perm _ _ _)
      · split
        · exact Keep.perm w (mv_perm _ _ _)
        · split
          · exact Keep.perm w (mv_perm _ _ _)
          · exact Keep.perm w (mv_perm _ _ _)
  | [m], ha, hk, hne =>
    show Keep _ row (match spot row m with | some o => besideR s row i o | none => row)
    cases spot row m with
    | none => exact Keep.perm w (.refl _)
    | some o => exact Keep.perm w (mv_perm _ _ _)
  | [m, g], ha, hk, hne =>
    show Keep _ row (match spot row m with | some o => if tk then row else groupedR row i o g | none => row)
    cases q : spot row m with
    | none => exact Keep.perm w (.refl _)
    | some o =>
      cases tk with
      | true => exact Keep.perm w (.refl _)
      | false =>
        simp only [Bool.false_eq_true, if_false]
        have hio := hne m o (by simp) q
        obtain ⟨ho, _⟩ := spot_lt q
        obtain ⟨lo, elo⟩ : ∃ lo, min i o = lo := ⟨_, rfl⟩
        obtain ⟨hi', ehi⟩ : ∃ hi', max i o = hi' := ⟨_, rfl⟩
        have l3 : lo < hi' := by omega
        have l2 : hi' < row.length := by omega
        obtain ⟨A, x, B, rfl, rfl⟩ := row_split (show lo < row.length by omega)
        obtain ⟨C, y, D, rfl, hC⟩ := row_split (show hi' - (A.length + 1) < B.length by simp at l2; omega)
        have eh : hi' = A.length + 1 + C.length := by omega
        have gx : (A ++ x :: (C ++ y :: D))[A.length]? = some x := by simp
        have gy : (A ++ x :: (C ++ y :: D))[hi']? = some y := by
          rw [show A ++ x :: (C ++ y :: D) = (A ++ x :: C) ++ y :: D by simp, List.getElem?_append_right (by simp; omega)]
          rw [show hi' - (A ++ x :: C).length = 0 by simp; omega]
          rfl
        have t1 : (A ++ x :: (C ++ y :: D)).take A.length = A := by simp
        have t2 : ((A ++ x :: (C ++ y :: D)).drop (A.length + 1)).take (hi' - (A.length + 1)) = C := by
          rw [show A ++ x :: (C ++ y :: D) = (A ++ [x]) ++ (C ++ y :: D) by simp, List.drop_append_of_le_length (by simp), ← hC]
          simp
        have t3 : (A ++ x :: (C ++ y :: D)).drop (hi' + 1) = D := by
          rw [show A ++ x :: (C ++ y :: D) = (A ++ x :: C ++ [y]) ++ D by simp, List.drop_append_of_le_length (by simp; omega), List.drop_eq_nil_of_le (by simp; omega)]
          rfl
        have e : groupedR (A ++ x :: (C ++ y :: D)) i o g = A ++ C ++ [.tuple [g, .tuple [x, y]]] ++ D := by
          unfold groupedR
          rw [elo, ehi, gx, gy]
          simp only
          rw [t1, t2, t3]
        rw [e]
        have hg : isName g = true := List.all_eq_true.mp ha g (by simp)
        rw [(all_app _ _).1, wfAll_cons, (all_app _ _).1, wfAll_cons] at w
        simp only [Bool.and_eq_true] at w
        refine ⟨?_, ?_, [g], [], .inr ⟨g, by simp [newN], rfl⟩, ?_⟩
        · simp only [(all_app _ _).1, wfAll_cons, wfAll_nil, wfI_g, w.1, w.2.1, w.2.2.1, w.2.2.2.1, w.2.2.2.2, hg, Bool.and_self]
        · simp only [(all_app _ _).2.2.2.1, thAll_cons, thAll_nil, thI_g, List.append_nil]
          refine perm_of_count fun a => ?_
          simp only [List.count_append]
          omega
        · simp only [(all_app _ _).2.1, idsAll_cons, idsAll_nil, idsI_g, List.append_nil]
          refine perm_of_count fun a => ?_
          simp only [List.count_append, List.cons_append, List.count_cons, List.nil_append]
          omega
  | _ :: _ :: _ :: _, ha, hk, hne =>
    have := kind_le s
    simp at hk
    omega
open Classical in
theorem withRow_keep {G R' : List PyData} : ∀ (w : List Nat) (ys : List PyData), wfAll ys = true → validW ys w → Keep G (rowAt ys w) R' → Keep G ys (withRow ys w R')
  | [], ys, _, h, _ => h.elim
  | [i], ys, _, _, k => by simpa [rowAt, withRow] using k
  | i :: j :: w, ys, wf, h, k => by
    obtain ⟨g, zs, hg, hv⟩ := h
    obtain ⟨hi, e⟩ := List.getElem?_eq_some_iff.mp hg
    obtain ⟨A, x, B, rfl, rfl⟩ := row_split hi
    have ex : (A ++ x :: B)[A.length] = x := by simp
    rw [ex] at e
    subst e
    rw [rowAt, hg] at k
    simp only at k
    rw [(all_app _ _).1, wfAll_cons, wfI_g] at wf
    simp only [Bool.and_eq_true] at wf
    obtain ⟨k1, k2, add, del, k3, k4⟩ := withRow_keep (j :: w) zs wf.2.1.2 hv k
    rw [withRow, hg]
    simp only
    have et : (A ++ PyData.tuple [g, PyData.tuple zs] :: B).take A.length = A := by simp
    have ed : (A ++ PyData.tuple [g, PyData.tuple zs] :: B).drop (A.length + 1) = B := by
      rw [show A ++ PyData.tuple [g, PyData.tuple zs] :: B = (A ++ [PyData.tuple [g, PyData.tuple zs]]) ++ B by simp, List.drop_append_of_le_length (by simp), List.drop_eq_nil_of_le (by simp)]
      rfl
    rw [et, ed]
    refine ⟨?_, ?_, add, del, k3, ?_⟩
    · simp only [(all_app _ _).1, wfAll_cons, wfAll_nil, wfI_g, wf.1, wf.2.1.1, wf.2.2, k1, Bool.and_self]
    · simp only [(all_app _ _).2.2.2.1, thAll_cons, thAll_nil, thI_g, List.append_nil, List.append_assoc]
      exact (k2.append_right _).append_left _
    · simp only [(all_app _ _).2.1, idsAll_cons, idsAll_nil, idsI_g, List.append_nil]
      refine perm_of_count fun a => ?_
      have := List.perm_iff_count.mp k4 a
      simp only [List.count_append, List.cons_append, List.count_cons] at this ⊢
      omega
/-! ### a command on a good drawing -/
structure Gd (ys : List PyData) : Prop where
  wf : wfAll ys = true
  nd : (idsAll ys).Nodup
  th : (thAll ys).length ≤ 40
theorem Gd.gr {ys : List PyData} (h : Gd ys) : (grAll ys).length ≤ 3 := by
  obtain ⟨_, a2, _, a4, _⟩ := wf_parts _ (Nat.le_refl (cnAll ys)) h.wf
  exact names_few a2 (List.nodup_append.mp (a4.nodup_iff.mp h.nd)).1
theorem Gd.meas {ys : List PyData} (h : Gd ys) : cnAll ys ≤ 49 ∧ PyData.depthAll ys ≤ 6 ∧ PyData.canLayAll0 ys = true ∧ dpAll ys ≤ 3 := by
  obtain ⟨a, b, c⟩ := wf_meas _ (Nat.le_refl (cnAll ys)) h.wf
  have g := h.gr
  have t := h.th
  obtain ⟨_, _, _, _, d, _⟩ := wf_parts _ (Nat.le_refl (cnAll ys)) h.wf
  exact ⟨by omega, by omega, c, by omega⟩
theorem Gd.lim {ys : List PyData} (h : Gd ys) : LimA 49 6 ys := ⟨h.meas.2.2.1, h.meas.1, h.meas.2.1⟩
def behC (c : PyData) (ys : List PyData) : List PyData := match c with
  | .tuple (.str s :: n :: r) => doneAll (rowP s (n :: r) (takenB ys (n :: r))) n ys
  | _ => ys
def behL (cs : List PyData) (ys : List PyData) : List PyData := cs.foldl (fun ys c => behC c ys) ys
theorem cmd_form {c : PyData} (h : cmdD c = true) : ∃ s n r, c = .tuple (.str s :: n :: r) ∧ (n :: r).all isName = true ∧ (n :: r).Nodup ∧ kind s = (n :: r).length := by
  obtain ⟨s, r, rfl, h1, h2, h3, h4⟩ := cmd_parts h
  cases r with
  | nil => exact absurd rfl h4
  | cons n r => exact ⟨s, n, r, rfl, h1, h2, h3⟩
theorem behC_keep {s : Str} {n : PyData} {r : List PyData} (ha : (n :: r).all isName = true) (hnd : (n :: r).Nodup) (hk : kind s = (n :: r).length) {ys : List PyData} (wf : wfAll ys = true) (nd : (idsAll ys).Nodup) :
    Keep (newN r (takenB ys (n :: r))) ys (behC (.tuple (.str s :: n :: r)) ys) := by
  have names : ∀ x, x ∈ n :: r → isThing x = true := fun x hx => name_thing (List.all_eq_true.mp ha x hx)
  have hn := names n List.mem_cons_self
  have hed := edit hn (rowP s (n :: r) (takenB ys (n :: r))) _ (Nat.le_refl (cnAll ys)) wf nd
  show Keep _ ys (doneAll (rowP s (n :: r) (takenB ys (n :: r))) n ys)
  cases q : wayAll 0 ys n with
  | none =>
    obtain ⟨_, e1, e2⟩ := hed.1 q
    unfold doneAll
    rw [e1]
    simp only
    rw [e2]
    exact Keep.perm wf (.refl _)
  | some w =>
    obtain ⟨_, hv, he⟩ := hed.2 w q
    obtain ⟨p1, p2, p3, p4, p5⟩ := way_row _ (Nat.le_refl (cnAll ys)) wf nd q
    rw [← he]
    refine withRow_keep w ys wf hv (rowP_keep ha hk p1 p5 fun m o hm hs => ?_)
    exact spot_ne p1 hn (names m (List.mem_cons_of_mem _ hm)) (fun z => (List.nodup_cons.mp hnd).1 (by rw [z]; exact hm)) p4 hs
theorem taken_in {ys : List PyData} (wf : wfAll ys = true) (nd : (idsAll ys).Nodup) {n m g : PyData} (hg : isThing g = true) : takenB ys [n, m, g] = true ↔ g ∈ idsAll ys := by
  have hed := edit hg (fun row _ => row) _ (Nat.le_refl (cnAll ys)) wf nd
  show (wayAll 0 ys g).isSome = true ↔ _
  cases q : wayAll 0 ys g with
  | none => simp [(hed.1 q).1]
  | some w => simp [(hed.2 w q).1]
theorem behC_gd {c : PyData} (hc : cmdD c = true) {ys : List PyData} (h : Gd ys) : Gd (behC c ys) ∧ (thAll (behC c ys)).Perm (thAll ys) := by
  obtain ⟨s, n, r, rfl, ha, hnd, hk⟩ := cmd_form hc
  obtain ⟨k1, k2, add, del, k3, k4⟩ := behC_keep ha hnd hk h.wf h.nd
  refine ⟨⟨k1, ?_, by rw [k2.length_eq]; exact h.th⟩, k2⟩
  have : (add ++ idsAll ys).Nodup := by
    rcases k3 with rfl | ⟨g, hg, rfl⟩
    · simpa using h.nd
    · rw [List.singleton_append, List.nodup_cons]
      refine ⟨fun hin => ?_, h.nd⟩
      match r, ha, hg with
      | [m, g'], ha, hg =>
        cases htk : takenB ys [n, m, g'] with
        | true => simp [htk, newN] at hg
        | false =>
          simp [htk, newN] at hg
          subst hg
          have := (taken_in h.wf h.nd (n := n) (m := m) (name_thing (List.all_eq_true.mp ha g (by simp)))).mpr hin
          rw [htk] at this
          cases this
      | [], ha, hg => simp [newN] at hg
      | [m], ha, hg => simp [newN] at hg
      | _ :: _ :: _ :: _, ha, hg => simp [newN] at hg
  exact (List.nodup_append.mp (k4.nodup_iff.mpr this)).2.1
end P

set_option Elab.async false
set_option linter.all false
set_option maxRecDepth 100000
set_option maxHeartbeats 4000000
/-! P20: scripts on good drawings; where a name lies. -/
namespace P
open PySem PySem.Spec PyProof.Rows L2 DL U

theorem Gd.ids {ys : List PyData} (h : Gd ys) : (idsAll ys).length ≤ 43 ∧ (idsAll ys).all isThing = true := by
  obtain ⟨_, _, a3, a4, _⟩ := wf_parts _ (Nat.le_refl (cnAll ys)) h.wf
  have := a4.length_eq
  rw [List.length_append] at this
  have := h.gr
  have := h.th
  exact ⟨by omega, a3⟩
theorem Gd.law_ids {ys : List PyData} (h : Gd ys) (S : Store) : F__law_ids 40 [.d (.tuple ys)] S = .ok (.own (idsAll ys)) S := by
  obtain ⟨m1, m2, m3, m4⟩ := h.meas
  obtain ⟨_, _, _, _, _, _, a7⟩ := wf_parts _ (Nat.le_refl (cnAll ys)) h.wf
  rw [lids_eq S 40 ys (by omega) (by omega), a7]
theorem Gd.things {ys : List PyData} (h : Gd ys) (S : Store) : F_all_things 40 [.d (.tuple ys)] S = .ok (.own (thAll ys)) S :=
  things_eq S 40 ys h.wf (by have := h.meas.2.2.2; omega) (by have := h.th; omega)
theorem Gd.lthings {ys : List PyData} (h : Gd ys) (S : Store) : F__law_things 40 [.d (.tuple ys)] S = .ok (.d (.list (thAll ys))) S :=
  lthings_eq S 40 ys h.wf (by have := h.meas.2.2.2; omega) (by have := h.th; omega)
theorem Gd.th_things {ys : List PyData} (h : Gd ys) : (thAll ys).all isThing = true := (wf_parts _ (Nat.le_refl (cnAll ys)) h.wf).1
theorem Gd.sh {ys : List PyData} (h : Gd ys) : SeqAt.shaped (.tuple ys) = true := (fit2 h.lim.tup (by omega) (by omega)).sh
theorem Gd.shTh {ys : List PyData} (h : Gd ys) : SeqAt.shaped (.list (thAll ys)) = true := lids_shaped h.th_things
theorem eqv_self {x : PyData} (h : SeqAt.shaped x = true) : PyData.eqv x x = true := PySem.SeqAt.eqv_refl x (SeqAt.canLay_of_shaped h)
theorem Drawn.gd {most : Nat} {flat : Bool} {ys : List PyData} (h : Drawn most flat ys) (hm : most ≤ 37) : Gd ys := ⟨h.wf, h.nd, by have := h.th; omega⟩
theorem Gd.good {ys : List PyData} (h : Gd ys) : goodD (.tuple ys) = true := by
  refine goodD_eq ?_
  simp only [iff_true]
  exact ⟨ys, rfl, h.wf, h.nd, h.th⟩
theorem gd_of_good {ys : List PyData} (h : goodD (.tuple ys) = true) : Gd ys := by
  obtain ⟨zs, e, a, b, c⟩ := good_parts h
  cases e
  exact ⟨a, b, c⟩
theorem behind_c {c : PyData} (hc : cmdD c = true) {ys : List PyData} (h : Gd ys) (S : Store) : F_behind [.d c, .d (.tuple ys)] S = .ok (.d (.tuple (behC c ys))) S := by
  obtain ⟨s, n, r, rfl, ha, hnd, hk⟩ := cmd_form hc
  obtain ⟨m1, m2, m3, m4⟩ := h.meas
  exact behind_eq ha hnd hk h.wf h.nd (by omega) (by omega) S
theorem ldone_c {c : PyData} (hc : cmdD c = true) {ys : List PyData} (h : Gd ys) (S : Store) : F__law_done 40 [.d c, .d (.tuple ys), .d (.list (idsAll ys))] S = .ok (.d (.tuple (behC c ys))) S := by
  obtain ⟨s, n, r, rfl, ha, hnd, hk⟩ := cmd_form hc
  obtain ⟨m1, m2, m3, m4⟩ := h.meas
  refine ldone_eq ha hnd hk (tk := takenB ys (n :: r)) (fun m g e => ?_) S 40 ys h.wf (by omega) (by omega)
  subst e
  have hg : isThing g = true := name_thing (List.all_eq_true.mp ha g (by simp))
  rw [inG_list (thing_sh hg) (lids_shaped h.ids.2)]
  have : ((idsAll ys).any fun z => PyData.eqv z g) = takenB ys [n, m, g] := by
    rw [Bool.eq_iff_iff, any_eqv (thing_key hg) (key_things h.ids.2), taken_in h.wf h.nd hg]
  simp [this]
theorem behL_gd : ∀ {cs : List PyData} {ys : List PyData}, (∀ c, c ∈ cs → cmdD c = true) → Gd ys → Gd (behL cs ys) ∧ (thAll (behL cs ys)).Perm (thAll ys)
  | [], ys, _, h => ⟨h, .refl _⟩
  | c :: cs, ys, hc, h => by
    obtain ⟨a, b⟩ := behC_gd (hc c (by simp)) h
    obtain ⟨d, e⟩ := behL_gd (cs := cs) (fun c h => hc c (List.mem_cons_of_mem _ h)) a
    exact ⟨d, e.trans b⟩
theorem behL_nil {ys : List PyData} : behL [] ys = ys := rfl
theorem behL_cons {c : PyData} {cs ys : List PyData} : behL (c :: cs) ys = behL cs (behC c ys) := rfl
theorem behL_app {cs ds ys : List PyData} : behL (cs ++ ds) ys = behL ds (behL cs ys) := by unfold behL; rw [List.foldl_append]
theorem drawing_go (S : Store) (e0 : Option EV) : ∀ (cs : List PyData) (ys : List PyData) (e2 : Option EV), (∀ c, c ∈ cs → cmdD c = true) → Gd ys →
    ∃ e2', forD (tgN 2) b_drawing_behind_1 cs [e0, some (.d (.tuple ys)), e2] S = .next [e0, some (.d (.tuple (behL cs ys))), e2'] S
  | [], ys, e2, _, _ => ⟨e2, by simp [forD, behL]⟩
  | c :: cs, ys, e2, hc, h => by
    have hb : b_drawing_behind_1 [e0, some (.d (.tuple ys)), some (.d c)] S = .next [e0, some (.d (.tuple (behC c ys))), some (.d c)] S := by
      unfold b_drawing_behind_1
      simp [behind_c (hc c (by simp)) h]
    obtain ⟨e2', q⟩ := drawing_go S e0 cs (behC c ys) (some (.d c)) (fun c h => hc c (List.mem_cons_of_mem _ h)) (behC_gd (hc c (by simp)) h).1
    refine ⟨e2', ?_⟩
    unfold forD
    simp only [tgN_ap, List.set_cons_succ, List.set_cons_zero, hb]
    exact q
theorem drawing_behind_eq {cs ys : List PyData} (hc : ∀ c, c ∈ cs → cmdD c = true) (h : Gd ys) (S : Store) : F_drawing_behind [.d (.tuple cs), .d (.tuple ys)] S = .ok (.d (.tuple (behL cs ys))) S := by
  show endF (g_drawing_behind [some (.d (.tuple cs)), some (.d (.tuple ys)), none] S) = _
  obtain ⟨e2', q⟩ := drawing_go S (some (.d (.tuple cs))) cs ys none hc h
  unfold g_drawing_behind
  simp [q]
theorem larranged_go (S : Store) (e0 : Option EV) : ∀ (cs : List PyData) (ys : List PyData) (e2 : Option EV), (∀ c, c ∈ cs → cmdD c = true) → Gd ys →
    ∃ e2', forD (tgN 2) b__law_arranged_1 cs [e0, some (.d (.tuple ys)), e2] S = .next [e0, some (.d (.tuple (behL cs ys))), e2'] S
  | [], ys, e2, _, _ => ⟨e2, by simp [forD, behL]⟩
  | c :: cs, ys, e2, hc, h => by
    have hb : b__law_arranged_1 [e0, some (.d (.tuple ys)), some (.d c)] S = .next [e0, some (.d (.tuple (behC c ys))), some (.d c)] S := by
      unfold b__law_arranged_1
      simp [ldone_c (hc c (by simp)) h, h.law_ids]
    obtain ⟨e2', q⟩ := larranged_go S e0 cs (behC c ys) (some (.d c)) (fun c h => hc c (List.mem_cons_of_mem _ h)) (behC_gd (hc c (by simp)) h).1
    refine ⟨e2', ?_⟩
    unfold forD
    simp only [tgN_ap, List.set_cons_succ, List.set_cons_zero, hb]
    exact q
theorem larranged_eq {cs ys : List PyData} (hc : ∀ c, c ∈ cs → cmdD c = true) (h : Gd ys) (S : Store) : F__law_arranged [.d (.tuple cs), .d (.tuple ys)] S = .ok (.d (.tuple (behL cs ys))) S := by
  show endF (g__law_arranged [some (.d (.tuple cs)), some (.d (.tuple ys)), none] S) = _
  obtain ⟨e2', q⟩ := larranged_go S (some (.d (.tuple cs))) cs ys none hc h
  unfold g__law_arranged
  simp [q]
/-! ### the needs -/
theorem need_script_eq {v : PyData} (h : Fit v) (S : Store) : F_need_script [.d v] S = if scrD v = true then .ok (.d .none) S else .raise ⟨"InvalidScript", none⟩ S := by
  show endF (g_need_script [some (.d v)] S) = _
  unfold g_need_script
  cases q : scrD v <;> simp [h.scr, q, raiseS]
theorem need_drawing_eq {v : PyData} (h : cnI v ≤ 4000) (S : Store) : F_need_drawing [.d v] S = if goodD v = true then .ok (.d .none) S else .raise ⟨"InvalidDrawing", none⟩ S := by
  show endF (g_need_drawing [some (.d v)] S) = _
  unfold g_need_drawing
  cases q : goodD v <;> simp [right_eq, h, q, raiseS]
theorem need_name_eq (v : PyData) (S : Store) : F_need_name [.d v] S = if isName v = true then .ok (.d .none) S else .raise ⟨"InvalidName", none⟩ S := by
  show endF (g_need_name [some (.d v)] S) = _
  unfold g_need_name
  cases q : isName v <;> simp [name_eq, q, raiseS]
theorem scrD_mk {cs : List PyData} (hc : ∀ c, c ∈ cs → cmdD c = true) (hl : cs.length ≤ 4) : scrD (.tuple cs) = true := by
  unfold scrD
  simp only [hl, decide_true, Bool.true_and]
  exact List.all_eq_true.mpr hc
theorem scr_fit {cs : List PyData} (hc : ∀ c, c ∈ cs → cmdD c = true) (hl : cs.length ≤ 4) : Fit (.tuple cs) := (fit2 (script_lim hc hl).tup (by omega) (by omega)).toFit
theorem arranged_eq {cs ys : List PyData} (hc : ∀ c, c ∈ cs → cmdD c = true) (hl : cs.length ≤ 4) (h : Gd ys) (S : Store) : F_arranged [.d (.tuple cs), .d (.tuple ys)] S = .ok (.d (.tuple (behL cs ys))) S := by
  show endF (g_arranged [some (.d (.tuple cs)), some (.d (.tuple ys))] S) = _
  have n1 := need_script_eq (scr_fit hc hl) S
  rw [scrD_mk hc hl] at n1
  have n2 := need_drawing_eq (v := .tuple ys) (by have := h.meas.1; simp; omega) S
  rw [h.good] at n2
  unfold g_arranged
  simp [n1, n2, drawing_behind_eq hc h]
theorem painted_eq {ys : List PyData} (h : Gd ys) (S : Store) : F_painted [.d (.tuple ys)] S = .ok (.own (thAll ys)) S := by
  show endF (g_painted [some (.d (.tuple ys))] S) = _
  have n2 := need_drawing_eq (v := .tuple ys) (by have := h.meas.1; simp; omega) S
  rw [h.good] at n2
  unfold g_painted
  simp [n2, h.things]
/-! ### where a name lies -/
mutual
def whI : PyData → PyData → Option (List PyData)
  | .tuple [g, .tuple ys], n => (match spot ys n with
    | some i => some [PyData.int (i : Nat)]
    | none => whL ys n).map (g :: ·)
  | _, _ => none
def whL : List PyData → PyData → Option (List PyData)
  | [], _ => none
  | x :: xs, n => match whI x n with
    | some w => some w
    | none => whL xs n
end
def whA (ys : List PyData) (n : PyData) : Option (List PyData) := match spot ys n with
  | some i => some [.int (i : Nat)]
  | none => whL ys n
def whD : Option (List PyData) → PyData
  | none => .none
  | some w => .tuple w
theorem whI_g {g n : PyData} {ys : List PyData} : whI (.tuple [g, .tuple ys]) n = (whA ys n).map (g :: ·) := by
  rw [whI]
  rfl
theorem whI_t {x n : PyData} (h : isTup x = false) : whI x n = none := by
  unfold whI
  split
  · cases h
  · rfl
theorem whL_nil {n : PyData} : whL [] n = none := by rw [whL]
theorem whL_cons {x n : PyData} {xs : List PyData} : whL (x :: xs) n = match whI x n with
    | some w => some w
    | none => whL xs n := by rw [whL]
def crumbs : List PyData → List Nat → List PyData
  | ys, i :: j :: w => match ys[i]? with
    | some (.tuple [g, .tuple zs]) => g :: crumbs zs (j :: w)
    | _ => []
  | _, [i] => [.int (i : Nat)]
  | _, [] => []
theorem crumbs_len : ∀ (w : List Nat) (ys : List PyData), validW ys w → (crumbs ys w).length = w.length
  | [], _, h => h.elim
  | [i], _, _ => rfl
  | i :: j :: w, ys, h => by
    obtain ⟨g, zs, hg, hv⟩ := h
    rw [crumbs, hg]
    simp only [List.length_cons]
    rw [crumbs_len (j :: w) zs hv]
    rfl
theorem nd_out {A B : List PyData} {x n : PyData} (nd : (idsAll (A ++ x :: B)).Nodup) (hx : n ∈ idsI x) : ∀ y, y ∈ A ∨ y ∈ B → n ∉ idsI y := fun y hy hm => by
  rw [(all_app _ _).2.1, idsAll_cons] at nd
  rcases hy with hy | hy
  · exact (List.nodup_append.mp nd).2.2 n (ids_mem.mpr ⟨y, hy, hm⟩) n (List.mem_append_left _ hx) rfl
  · exact (List.nodup_append.mp (List.nodup_append.mp nd).2.1).2.2 n hx n (ids_mem.mpr ⟨y, hy, hm⟩) rfl
theorem deep_spot {A B zs : List PyData} {g n : PyData} (hn : isThing n = true) (w : wfAll (A ++ .tuple [g, .tuple zs] :: B) = true) (nd : (idsAll (A ++ .tuple [g, .tuple zs] :: B)).Nodup) (h : n ∈ idsAll zs) : spot (A ++ .tuple [g, .tuple zs] :: B) n = none := by
  rw [spot_none]
  intro y hy
  have wy := (wf_mem w hy).1
  rw [← Bool.not_eq_true, key_eqv (thing_key (called_key wy)) (thing_key hn)]
  intro e
  have out := nd_out (n := n) nd (by rw [idsI_g]; exact List.mem_cons_of_mem _ h)
  rcases List.mem_append.mp hy with z | z
  · exact out y (.inl z) (by rw [← e]; exact called_ids wy)
  · rcases List.mem_cons.mp z with z | z
    · subst z
      simp only [called] at e
      subst e
      rw [(all_app _ _).2.1, idsAll_cons, idsI_g] at nd
      have := (List.nodup_append.mp (List.nodup_append.mp nd).2.1).1
      exact (List.nodup_cons.mp this).1 h
    · exact out y (.inr z) (by rw [← e]; exact called_ids wy)
theorem where_way {n : PyData} (hn : isThing n = true) : ∀ (N : Nat) {ys : List PyData}, cnAll ys ≤ N → wfAll ys = true → (idsAll ys).Nodup → whA ys n = (wayAll 0 ys n).map (crumbs ys)
  | N, ys, hc, w, nd => by
    have inner : ∀ g zs, .tuple [g, .tuple zs] ∈ ys → whA zs n = (wayAll 0 zs n).map (crumbs zs) := fun g zs hx => by
      have h1 := cn_mem hx
      simp only [cnI_tup, cnAll_cons, cnAll_nil] at h1
      have h2 := (wf_mem w hx).1
      rw [wfI_g, Bool.and_eq_true] at h2
      obtain ⟨A, B, e⟩ := List.append_of_mem hx
      rw [e, (all_app _ _).2.1, idsAll_cons, idsI_g] at nd
      have nz := (List.nodup_cons.mp (List.nodup_append.mp (List.nodup_append.mp nd).2.1).1).2
      cases N with
      | zero => omega
      | succ N => exact where_way hn N (by omega) h2.2 nz
    have whl : ∀ xs, (∀ x, x ∈ xs → x ∈ ys) → (∀ x, x ∈ xs → wayI x n = none) → whL xs n = none := fun xs => by
      induction xs with
      | nil => intro _ _; exact whL_nil
      | cons x xs ih =>
        intro hs hw
        rw [whL_cons]
        have : whI x n = none := by
          rcases wf_form (wf_mem w (hs x (by simp))).1 with ⟨g, zs, rfl, _, _⟩ | ⟨_, q2, _⟩
          · have q := hw _ List.mem_cons_self
            rw [wayI_g] at q
            rw [whI_g, inner g zs (hs _ (by simp)), q]
            rfl
          · exact whI_t q2
        rw [this]
        simp only
        exact ih (fun x hx => hs x (List.mem_cons_of_mem _ hx)) fun x hx => hw x (List.mem_cons_of_mem _ hx)
    cases q : wayAll 0 ys n with
    | none =>
      have hh := way_none.mp q
      unfold whA
      rw [spot_none.mpr fun x hx => (hh x hx).1]
      simp only [Option.map_none]
      exact whl ys (fun _ h => h) fun x hx => (hh x hx).2
    | some v =>
      have hed := (edit hn (fun row _ => row) _ (Nat.le_refl (cnAll ys)) w nd).2 v q
      obtain ⟨A, x, B, rfl, hA, hx⟩ := way_some q
      rcases hx with ⟨hq, rfl⟩ | ⟨hq, v', hv, rfl⟩
      · unfold whA
        rw [spot_at (fun y hy => (hA y hy).1) hq]
        simp [crumbs]
      · rcases wf_form (wf_mem w (show x ∈ A ++ x :: B by simp)).1 with ⟨g, zs, rfl, _, hz⟩ | ⟨_, q2, _⟩
        · rw [wayI_g] at hv
          have hv0 := (way_len _ (Nat.le_refl _) hv).2
          obtain ⟨j, w', rfl⟩ : ∃ j w', v' = j :: w' := by
            cases v' with
            | nil => exact absurd rfl hv0
            | cons j w' => exact ⟨j, w', rfl⟩
          have nz : (idsAll zs).Nodup := by
            rw [(all_app _ _).2.1, idsAll_cons, idsI_g] at nd
            exact (List.nodup_cons.mp (List.nodup_append.mp (List.nodup_append.mp nd).2.1).1).2
          have hin := ((edit hn (fun row _ => row) _ (Nat.le_refl (cnAll zs)) hz nz).2 _ hv).1
          have gx : (A ++ .tuple [g, .tuple zs] :: B)[0 + A.length]? = some (.tuple [g, .tuple zs]) := by
            rw [Nat.zero_add, List.getElem?_append_right (Nat.le_refl _), Nat.sub_self]
            rfl
          have ec : crumbs (A ++ .tuple [g, .tuple zs] :: B) ((0 + A.length) :: j :: w') = g :: crumbs zs (j :: w') := by
            rw [crumbs, gx]
          unfold whA
          rw [deep_spot hn w nd hin]
          simp only [Option.map_some]
          rw [ec]
          have hl : ∀ (A : List PyData), (∀ y, y ∈ A → y ∈ A ++ .tuple [g, .tuple zs] :: B) → whL A n = none → whL (A ++ .tuple [g, .tuple zs] :: B) n = some (g :: crumbs zs (j :: w')) := fun A => by
            induction A with
            | nil =>
              intro _ _
              rw [List.nil_append, whL_cons, whI_g, inner g zs (by simp), hv]
              rfl
            | cons a A ih =>
              intro hs hw
              rw [whL_cons] at hw
              rw [List.cons_append, whL_cons]
              cases qa : whI a n with
              | some z => rw [qa] at hw; cases hw
              | none =>
                rw [qa] at hw
                exact ih (fun y hy => by simp [hy]) hw
          exact hl A (fun y hy => by simp [hy]) (whl A (fun y hy => by simp [hy]) fun y hy => (hA y hy).2)
        · rw [wayI_t q2] at hv
          cases hv
theorem lwhere_go {n : PyData} (S : Store) (F : DF) (e0 e2 : Option EV) : ∀ (ys : List PyData) (e3 e4 : Option EV), wfAll ys = true → cnAll ys ≤ 10000 → (∀ g zs, .tuple [g, .tuple zs] ∈ ys → F [.d (.tuple zs), .d n] S = .ok (.d (whD (whA zs n))) S ∧ ∀ w, whA zs n = some w → w.length ≤ 10000) →
    (whL ys n = none ∧ ∃ e3' e4', forD (tgN 3) (b__law_where_1 F) ys [e0, some (.d n), e2, e3, e4] S = .next [e0, some (.d n), e2, e3', e4'] S) ∨ ∃ w, whL ys n = some w ∧ forD (tgN 3) (b__law_where_1 F) ys [e0, some (.d n), e2, e3, e4] S = .ret (.d (.tuple w)) S
  | [], e3, e4, _, _, _ => .inl ⟨whL_nil, e3, e4, rfl⟩
  | y :: ys, e3, e4, w, hc, hF => by
    rw [wfAll_cons, Bool.and_eq_true] at w
    rw [cnAll_cons] at hc
    have rest := fun e4 => lwhere_go S F e0 e2 ys (some (.d y)) e4 w.2 (by omega) fun g zs hm => hF g zs (List.mem_cons_of_mem _ hm)
    unfold forD
    simp only [tgN_ap, List.set_cons_succ, List.set_cons_zero]
    rw [whL_cons]
    rcases wf_form w.1 with ⟨g, zs, rfl, _, _⟩ | ⟨_, t2, _⟩
    · obtain ⟨f1, f2⟩ := hF g zs (by simp)
      rw [whI_g]
      cases q : whA zs n with
      | none =>
        rw [q] at f1
        have hb : b__law_where_1 F [e0, some (.d n), e2, some (.d (.tuple [g, .tuple zs])), e4] S = .next [e0, some (.d n), e2, some (.d (.tuple [g, .tuple zs])), some (.d .none)] S := by
          unfold b__law_where_1
          simp [f1, whD, kIsN]
        rw [hb]
        exact rest _
      | some v =>
        rw [q] at f1
        have := f2 v q
        have g1 : addG (.tuple [g]) (.tuple v) = _ := addG_tuple (by simp; omega)
        have hb : b__law_where_1 F [e0, some (.d n), e2, some (.d (.tuple [g, .tuple zs])), e4] S = .ret (.d (.tuple (g :: v))) S := by
          unfold b__law_where_1
          simp [f1, whD, kIsN, g1]
        rw [hb]
        exact .inr ⟨_, rfl, rfl⟩
    · rw [whI_t t2]
      have h4 : ¬ (tyD y = "tuple") := by cases y <;> first | (simp; done) | cases t2
      have h5 : (tyD y == "tuple") = false := by rw [beq_eq_false_iff_ne]; exact h4
      have hb : b__law_where_1 F [e0, some (.d n), e2, some (.d y), e4] S = .next [e0, some (.d n), e2, some (.d y), e4] S := by
        unfold b__law_where_1
        simp [h4, h5]
      rw [hb]
      exact rest _
theorem lwhere_eq {n : PyData} (hn : isThing n = true) (S : Store) : ∀ (d : Nat) (ys : List PyData), wfAll ys = true → (idsAll ys).Nodup → cnAll ys ≤ 9000 → dpAll ys < d → F__law_where d [.d (.tuple ys), .d n] S = .ok (.d (whD (whA ys n))) S ∧ ∀ w, whA ys n = some w → w.length ≤ 10000
  | 0, ys, _, _, _, h => by omega
  | d + 1, ys, w, nd, hc, h => by
    have len : ∀ w, whA ys n = some w → w.length ≤ 10000 := fun v hv => by
      rw [where_way hn _ (Nat.le_refl _) w nd] at hv
      cases q : wayAll 0 ys n with
      | none => rw [q] at hv; cases hv
      | some u =>
        rw [q] at hv
        cases hv
        have := ((edit hn (fun row _ => row) _ (Nat.le_refl (cnAll ys)) w nd).2 u q).2.1
        rw [crumbs_len u ys this]
        have := (way_len _ (Nat.le_refl (cnAll ys)) q).1
        omega
    refine ⟨?_, len⟩
    have hl := cn_len ys
    have ls := lspot_eq w hn (by omega) S
    show endF (g__law_where (F__law_where d) [some (.d (.tuple ys)), some (.d n), none, none, none] S) = _
    unfold g__law_where
    cases q : spot ys n with
    | some i =>
      rw [q] at ls
      have : whA ys n = some [.int (i : Nat)] := by unfold whA; rw [q]
      rw [this]
      simp [ls, intO, kIsN, whD]
    | none =>
      rw [q] at ls
      have : whA ys n = whL ys n := by unfold whA; rw [q]
      rw [this]
      rcases lwhere_go (n := n) S (F__law_where d) (some (.d (.tuple ys))) (some (.d .none)) ys none none w (by omega) (fun g zs hm => by
        obtain ⟨h1, h2, _⟩ := wf_mem w hm
        rw [wfI_g, Bool.and_eq_true] at h1
        rw [dpI_g] at h2
        have := cn_mem hm
        simp only [cnI_tup, cnAll_cons] at this
        obtain ⟨A, B, e⟩ := List.append_of_mem hm
        rw [e, (all_app _ _).2.1, idsAll_cons, idsI_g] at nd
        have nz := (List.nodup_cons.mp (List.nodup_append.mp (List.nodup_append.mp nd).2.1).1).2
        exact lwhere_eq hn S d zs h1.2 nz (by omega) (by omega)) with ⟨h1, a, b, h2⟩ | ⟨v, h1, h2⟩
      · rw [h1]
        simp [ls, intO, kIsN, whD, h2]
      · rw [h1]
        simp [ls, intO, kIsN, whD, h2]
theorem place_go (S : Store) (e0 e1 e2 : Option EV) : ∀ (w : List Nat) (ys acc : List PyData) (e5 : Option EV), validW ys w → acc.length + w.length ≤ 10000 →
    ∃ ys' e5', forD (tgN 5) b_place_1 (nums w.dropLast) [e0, e1, e2, some (.d (.tuple acc)), some (.d (.tuple ys)), e5] S = .next [e0, e1, e2, some (.d (.tuple (acc ++ (crumbs ys w).dropLast))), some (.d (.tuple ys')), e5'] S ∧ crumbs ys w = (crumbs ys w).dropLast ++ [.int ((w.getLast?.getD 0 : Nat) : Int)]
  | [], ys, acc, e5, h, _ => h.elim
  | [i], ys, acc, e5, h, _ => ⟨ys, e5, by simp [forD, crumbs], by simp [crumbs]⟩
  | i :: j :: w, ys, acc, e5, h, hl => by
    obtain ⟨g, zs, hg, hv⟩ := h
    simp only [List.length_cons] at hl
    obtain ⟨ys', e5', h2, h3⟩ := place_go S e0 e1 e2 (j :: w) zs (acc ++ [g]) (some (.d (.int (i : Nat)))) hv (by simp; omega)
    have hi := (List.getElem?_eq_some_iff.mp hg)
    have ha : atI ys (i : Int) = some (.tuple [g, .tuple zs]) := by
      rw [atI_nat hi.1, hi.2]
    have g1 : addG (.tuple acc) (.tuple [g]) = _ := addG_tuple (by simp; omega)
    have hb : b_place_1 [e0, e1, e2, some (.d (.tuple acc)), some (.d (.tuple ys)), some (.d (.int (i : Nat)))] S = .next [e0, e1, e2, some (.d (.tuple (acc ++ [g]))), some (.d (.tuple zs)), some (.d (.int (i : Nat)))] S := by
      unfold b_place_1
      simp [ha, g1]
    have ec : crumbs ys (i :: j :: w) = g :: crumbs zs (j :: w) := by rw [crumbs, hg]
    have ne : crumbs zs (j :: w) ≠ [] := fun z => by
      have := crumbs_len (j :: w) zs hv
      rw [z] at this
      cases this
    have ed : (g :: crumbs zs (j :: w)).dropLast = g :: (crumbs zs (j :: w)).dropLast := List.dropLast_cons_of_ne_nil ne
    refine ⟨ys', e5', ?_, ?_⟩
    · rw [List.dropLast_cons_cons]
      simp only [nums, List.map_cons]
      unfold forD
      simp only [tgN_ap, List.set_cons_succ, List.set_cons_zero, hb]
      rw [ec, ed]
      rw [show acc ++ g :: (crumbs zs (j :: w)).dropLast = acc ++ [g] ++ (crumbs zs (j :: w)).dropLast by simp]
      exact h2
    · rw [ec, ed, List.getLast?_cons_cons, List.cons_append, ← h3]
theorem place_eq {ys : List PyData} (h : Gd ys) {n : PyData} (hn : isName n = true) (S : Store) : F_place [.d (.tuple ys), .d n] S = .ok (.d (whD (whA ys n))) S := by
  have ht := name_thing hn
  have n2 := need_drawing_eq (v := .tuple ys) (by have := h.meas.1; simp; omega) S
  rw [h.good] at n2
  have n3 := need_name_eq n S
  rw [hn] at n3
  obtain ⟨m1, m2, m3, m4⟩ := h.meas
  have hw := way_eq ht S 40 ys h.wf (by omega) (by omega)
  rw [where_way ht _ (Nat.le_refl _) h.wf h.nd]
  show endF (g_place [some (.d (.tuple ys)), some (.d n), none, none, none, none] S) = _
  unfold g_place
  cases q : wayAll 0 ys n with
  | none =>
    rw [q] at hw
    simp [n2, n3, hw, wayD, whD, kIsN]
  | some w =>
    rw [q] at hw
    have hv := ((edit ht (fun row _ => row) _ (Nat.le_refl (cnAll ys)) h.wf h.nd).2 w q).2.1
    have hl := (way_len _ (Nat.le_refl (cnAll ys)) q)
    have cl := crumbs_len w ys hv
    obtain ⟨ys', e5', p1, p2⟩ := place_go S (some (.d (.tuple ys))) (some (.d n)) (some (.d (.tuple (nums w)))) w ys [] none hv (by simp; omega)
    have hc := cut_last (valid_ne hv)
    have la := last_at (valid_ne hv)
    simp only [List.nil_append] at p1
    have e : nums w.dropLast = (List.map (fun i => PyData.int ((i : Nat) : Int)) w).dropLast := by simp [nums]
    rw [e] at p1
    have dl : (crumbs ys w).dropLast.length ≤ 100 := by rw [List.length_dropLast]; omega
    have g1 : addG (.tuple (crumbs ys w).dropLast) (.tuple [.int ((w.getLast?.getD 0 : Nat) : Int)]) = some (.d (.tuple (crumbs ys w))) := by
      rw [addG_tuple (by simp only [List.length_singleton]; omega), ← p2]
    simp [n2, n3, hw, wayD, whD, kIsN, hc, p1, la, g1]
theorem where_gd {ys : List PyData} (h : Gd ys) {n : PyData} (hn : isName n = true) (S : Store) : F__law_where 40 [.d (.tuple ys), .d n] S = .ok (.d (whD (whA ys n))) S :=
  (lwhere_eq (name_thing hn) S 40 ys h.wf h.nd (by have := h.meas.1; omega) (by have := h.meas.2.2.2; omega)).1
end P

set_option Elab.async false
set_option linter.all false
set_option maxRecDepth 100000
set_option maxHeartbeats 4000000
/-! P21: the law k11. -/
namespace P
open PySem PySem.Spec PyProof.Rows L2 DL U

theorem louts {cs ys : List PyData} (hc : ∀ c, c ∈ cs → cmdD c = true) (hl : cs.length ≤ 4) (h : Gd ys) (S : Store) : F__law_outcome [.d (.tuple cs), .d (.tuple ys)] S = .ok (.d (.tuple (behL cs ys))) S := by
  show endF (g__law_outcome [some (.d (.tuple cs)), some (.d (.tuple ys))] S) = _
  have := arranged_eq hc hl h S
  unfold g__law_outcome tryS
  simp [this]
theorem lout_drawing {cs : List PyData} {v : PyData} (hc : ∀ c, c ∈ cs → cmdD c = true) (hl : cs.length ≤ 4) (h : cnI v ≤ 4000) (hg : goodD v = false) (S : Store) : F__law_outcome [.d (.tuple cs), .d v] S = .ok (.d (.str "drawing!")) S := by
  have n1 := need_script_eq (scr_fit hc hl) S
  rw [scrD_mk hc hl] at n1
  have n2 := need_drawing_eq h S
  rw [hg] at n2
  have ha : F_arranged [.d (.tuple cs), .d v] S = .raise ⟨"InvalidDrawing", none⟩ S := by
    show endF (g_arranged [some (.d (.tuple cs)), some (.d v)] S) = _
    unfold g_arranged
    simp [n1, n2]
  show endF (g__law_outcome [some (.d (.tuple cs)), some (.d v)] S) = _
  have e1 : exSub "InvalidDrawing" "InvalidScript" = false := by decide +kernel
  have e2 : exSub "InvalidDrawing" "InvalidDrawing" = true := by decide +kernel
  have e3 : (([("InvalidDrawing" : Str), ("InvalidScript" : Str)] : List Str).contains "InvalidDrawing") = true := by decide +kernel
  unfold g__law_outcome tryS
  simp [ha, runH, e1, e2, e3]
theorem lout_script {w v : PyData} (hw : Fit w) (hs : scrD w = false) (S : Store) : F__law_outcome [.d w, .d v] S = .ok (.d (.str "script!")) S := by
  have n1 := need_script_eq hw S
  rw [hs] at n1
  have ha : F_arranged [.d w, .d v] S = .raise ⟨"InvalidScript", none⟩ S := by
    show endF (g_arranged [some (.d w), some (.d v)] S) = _
    unfold g_arranged
    simp [n1]
  show endF (g__law_outcome [some (.d w), some (.d v)] S) = _
  have e2 : exSub "InvalidScript" "InvalidScript" = true := by decide +kernel
  have e3 : (([("InvalidDrawing" : Str), ("InvalidScript" : Str)] : List Str).contains "InvalidScript") = true := by decide +kernel
  unfold g__law_outcome tryS
  simp [ha, runH, e2, e3]
theorem lrefused {ys : List PyData} (h : Gd ys) {v : PyData} (hv : isName v = false) (S : Store) : F__law_refused [.d (.tuple ys), .d v] S = .ok (.d (.bool true)) S := by
  have n2 := need_drawing_eq (v := .tuple ys) (by have := h.meas.1; simp; omega) S
  rw [h.good] at n2
  have n3 := need_name_eq v S
  rw [hv] at n3
  have ha : F_place [.d (.tuple ys), .d v] S = .raise ⟨"InvalidName", none⟩ S := by
    show endF (g_place [some (.d (.tuple ys)), some (.d v), none, none, none, none] S) = _
    unfold g_place
    simp [n2, n3]
  show endF (g__law_refused [some (.d (.tuple ys)), some (.d v)] S) = _
  have e2 : exSub "InvalidName" "InvalidName" = true := by decide +kernel
  have e3 : (([("InvalidDrawing" : Str), ("InvalidName" : Str)] : List Str).contains "InvalidName") = true := by decide +kernel
  unfold g__law_refused tryS
  simp [ha, runH, e2, e3]
theorem whD_sh {ys : List PyData} (h : Gd ys) {n : PyData} (hn : isThing n = true) : SeqAt.shaped (whD (whA ys n)) = true := by
  rw [where_way hn _ (Nat.le_refl _) h.wf h.nd]
  cases q : wayAll 0 ys n with
  | none => exact shaped_none
  | some w =>
    have hv := ((edit hn (fun row _ => row) _ (Nat.le_refl (cnAll ys)) h.wf h.nd).2 w q).2.1
    have key : ∀ (w : List Nat) (ys : List PyData), wfAll ys = true → validW ys w → ∀ x, x ∈ crumbs ys w → isName x = true ∨ ∃ i : Int, x = .int i := fun w => by
      induction w with
      | nil => intro ys _ h; exact h.elim
      | cons i w ih =>
        intro ys wf h x hx
        cases w with
        | nil =>
          simp [crumbs] at hx
          exact .inr ⟨_, hx⟩
        | cons j w =>
          obtain ⟨g, zs, hg, hv⟩ := h
          have wi := (wf_mem wf (List.mem_of_getElem? hg)).1
          rw [wfI_g, Bool.and_eq_true] at wi
          rw [crumbs, hg] at hx
          simp only [List.mem_cons] at hx
          rcases hx with rfl | hx
          · exact .inl wi.1
          · exact ih zs wi.2 hv x hx
    have hk := key w ys h.wf hv
    have l := lay_all (xs := crumbs ys w) fun x hx => by
      rcases hk x hx with e | ⟨i, rfl⟩
      · exact (name_lay e).1
      · simp [PyData.canLay0]
    have d := dep_all (n := 1) (xs := crumbs ys w) fun x hx => by
      rcases hk x hx with e | ⟨i, rfl⟩
      · exact (name_lay e).2
      · simp [PyData.depth]
    exact canLay_shaped (by show PyData.canLay0 (.tuple _) = true; simp only [PyData.canLay0]; exact l) (by show PyData.depth (.tuple _) ≤ 64; simp only [PyData.depth]; omega)
theorem odd_sh {xs : List PyData} (h : xs.all isThing = true) : SeqAt.shaped (.list (xs ++ [.str "odd"])) = true := by
  have l := lay_all (xs := xs ++ [.str "odd"]) fun x hx => by
    rcases List.mem_append.mp hx with e | e
    · exact (id_lay (thing_id (List.all_eq_true.mp h x e))).1
    · simp at e; rw [e]; decide +kernel
  have d := dep_all (n := 1) (xs := xs ++ [.str "odd"]) fun x hx => by
    rcases List.mem_append.mp hx with e | e
    · exact (id_lay (thing_id (List.all_eq_true.mp h x e))).2
    · simp at e; rw [e]; decide +kernel
  exact canLay_shaped (by show PyData.canLay0 (.list _) = true; simp only [PyData.canLay0]; exact l) (by show PyData.depth (.list _) ≤ 64; simp only [PyData.depth]; omega)
theorem cut_but_last {xs : List PyData} {x : PyData} : DL.cutD (xs ++ [x]) none (some (-1)) = xs := by
  unfold DL.cutD
  have h1 : HT.sIx (xs ++ [x]).length 0 none = 0 := rfl
  have h2 : HT.sIx (xs ++ [x]).length (xs ++ [x]).length (some (-1)) = xs.length := by
    unfold HT.sIx
    simp
    omega
  rw [h1, h2]
  simp
/-- one turn -/
theorem k11_turn {l : Nat} {S : Store} (h : Drw l S) (e0 e1 e3 e4 e5 e6 e7 e8 e9 e10 e11 e12 : Option EV) : ∃ cs ys a5 a7 a8 S', (∀ c, c ∈ cs → cmdD c = true) ∧ cs.length ≤ 4 ∧ Gd ys ∧ Drw l S' ∧
    b_law_k11_1 [e0, e1, some (.ref l), e3, e4, e5, e6, e7, e8, e9, e10, e11, e12] S = .next [e0, e1, some (.ref l), e3, some (.d (.tuple cs)), a5, some (.d (.tuple ys)), a7, a8, e9, e10, e11, e12] S' := by
  obtain ⟨cs, S1, c1, c2, c3, h1⟩ := script h (most := 4) (by omega)
  obtain ⟨m, S2, hm, m1, h2⟩ := pick h1 (m := 2) (by omega) (by omega)
  have c3' : F__law_script [.ref l, .d (.int 4)] S = _ := c3
  have m1' : F__law_pick [.ref l, .d (.int 2)] S1 = _ := m1
  obtain ⟨mo, hmo, hmo2⟩ : ∃ mo : Nat, mo ≤ 12 ∧ atI [PyData.int 4, .int 12] (m : Int) = some (.int (mo : Nat)) := by
    rcases (show m = 0 ∨ m = 1 by omega) with rfl | rfl
    · exact ⟨4, by omega, by simp⟩
    · exact ⟨12, by omega, by simp⟩
  obtain ⟨ys, S3, dr, d2, h3⟩ := drawing h2 (most := mo) (by omega) false
  have g := dr.gd (by omega)
  have g' := (behL_gd c1 g).1
  have lo := louts c1 c2 g S3
  have la := larranged_eq c1 g S3
  generalize hz : behL cs ys = zs at g' lo la
  have pa := painted_eq g' S3
  have lt := g'.lthings S3
  have n1 := neG_sh g'.sh g'.sh
  rw [eqv_self g'.sh] at n1
  have n2 := neG_sh g'.shTh g'.shTh
  rw [eqv_self g'.shTh] at n2
  have lc : lcD (tgN 12) (some c_law_k11_1) e_law_k11_1 [e0, e1, some (.ref l), e3, some (.d (.tuple cs)), some (.d (.int (mo : Nat))), some (.d (.tuple ys)), some (.d (.tuple zs)), some (.own (thAll zs ++ [.str "odd"])), e9, e10, e11, none] abc [] S3 = .ok (.own []) S3 := by
    have := lcD_filter (t := tgN 12) (test := c_law_k11_1) (elt := e_law_k11_1) (env := [e0, e1, some (.ref l), e3, some (.d (.tuple cs)), some (.d (.int (mo : Nat))), some (.d (.tuple ys)), some (.d (.tuple zs)), some (.own (thAll zs ++ [.str "odd"])), e9, e10, e11, none]) (S := S3) (p := fun _ => false) abc (fun d hd => by
      have hn : isName d = true := by
        simp [abc] at hd
        rcases hd with rfl | rfl | rfl <;> decide +kernel
      have p1 := place_eq g' hn S3
      have p2 := where_gd g' hn S3
      have sh := whD_sh g' (name_thing hn)
      have n3 := neG_sh sh sh
      rw [eqv_self sh] at n3
      refine ⟨_, rfl, ?_, ?_⟩
      · unfold c_law_k11_1
        simp [p1, p2, n3]
      · unfold e_law_k11_1
        simp) (by simp [abc])
    have fe : abc.filter (fun _ => false) = [] := rfl
    rw [fe] at this
    exact this
  have app : (thAll zs).length < LIM := by have := g'.th; unfold LIM; omega
  have n4 := neG_sh shaped_nilL shaped_nilL
  rw [eqv_nilL] at n4
  refine ⟨cs, ys, some (.d (.int (mo : Nat))), some (.d (.tuple zs)), some (.own (thAll zs ++ [.str "odd"])), S3, c1, c2, g, h3, ?_⟩
  unfold b_law_k11_1
  simp [c3', m1', hmo2, d2, lo, la, n1, pa, lt, n2]
  simp [appS, app, pa, cut_but_last, n2, abc_items, lc, n4]

theorem k11_turns {l : Nat} (e0 e1 e9 e10 e11 e12 : Option EV) : ∀ (xs : List PyData) (x : PyData) (e3 e4 e5 e6 e7 e8 : Option EV) (S : Store), Drw l S → ∃ cs ys a3 a5 a7 a8 S', (∀ c, c ∈ cs → cmdD c = true) ∧ cs.length ≤ 4 ∧ Gd ys ∧ Drw l S' ∧
    forD (tgN 3) b_law_k11_1 (x :: xs) [e0, e1, some (.ref l), e3, e4, e5, e6, e7, e8, e9, e10, e11, e12] S = .next [e0, e1, some (.ref l), a3, some (.d (.tuple cs)), a5, some (.d (.tuple ys)), a7, a8, e9, e10, e11, e12] S'
  | [], x, e3, e4, e5, e6, e7, e8, S, h => by
    obtain ⟨cs, ys, a5, a7, a8, S', c1, c2, g, h', q⟩ := k11_turn h e0 e1 (some (.d x)) e4 e5 e6 e7 e8 e9 e10 e11 e12
    refine ⟨cs, ys, some (.d x), a5, a7, a8, S', c1, c2, g, h', ?_⟩
    unfold forD
    simp only [tgN_ap, List.set_cons_succ, List.set_cons_zero, q]
    rfl
  | y :: xs, x, e3, e4, e5, e6, e7, e8, S, h => by
    obtain ⟨cs, ys, a5, a7, a8, S', c1, c2, g, h', q⟩ := k11_turn h e0 e1 (some (.d x)) e4 e5 e6 e7 e8 e9 e10 e11 e12
    obtain ⟨cs2, ys2, a3, b5, b7, b8, S2, r⟩ := k11_turns e0 e1 e9 e10 e11 e12 xs y (some (.d x)) (some (.d (.tuple cs))) a5 (some (.d (.tuple ys))) a7 a8 S' h'
    refine ⟨cs2, ys2, a3, b5, b7, b8, S2, r.1, r.2.1, r.2.2.1, r.2.2.2.1, ?_⟩
    unfold forD
    simp only [tgN_ap, List.set_cons_succ, List.set_cons_zero, q]
    exact r.2.2.2.2
theorem not_good {v : PyData} (h : isTup v = false) : goodD v = false := by
  refine goodD_eq ?_
  simp only [Bool.false_eq_true, iff_false]
  rintro ⟨ys, rfl, _⟩
  cases h
theorem bad_zero : goodD (.tuple [.int 0, .int 0]) = false := by
  refine goodD_eq ?_
  simp only [Bool.false_eq_true, iff_false]
  rintro ⟨ys, e, w, nd, _⟩
  cases e
  revert nd
  rw [(things_wf (xs := [.int 0, .int 0]) (by decide)).2.1]
  simp
theorem bad_twice : goodD (.tuple [.tuple [.str "a", .tuple [.str "a"]]]) = false := by
  refine goodD_eq ?_
  simp only [Bool.false_eq_true, iff_false]
  rintro ⟨ys, e, w, nd, _⟩
  cases e
  revert nd
  rw [idsAll_cons, idsI_g, (things_wf (xs := [.str "a"]) (by decide +kernel)).2.1]
  simp
theorem list_no_script {cs : List PyData} : scrD (.list cs) = false := rfl
theorem k11_cell (ns : List Int) (k : Nat) (hk : k ≤ 1000) (e2 e3 e4 e5 e6 e7 e8 e9 e10 e11 e12 : Option EV) (S : Store) : (b_law_k11_4 [some (.scr ns), some (.d (.int (k : Nat))), e2, e3, e4, e5, e6, e7, e8, e9, e10, e11, e12] S).isNext fun e _ => ∃ a1 a2 a3 a4 a5 a6 a7 a8 a9 a10 a11 a12, e = [some (.scr ns), a1, a2, a3, a4, a5, a6, a7, a8, a9, a10, a11, a12] := by
  obtain ⟨a, b, q1, q2, q3, q4⟩ := source ns k hk S
  have h0 := drw_new (S := S) q2 q3 q4
  generalize hS0 : (S ++ [Cell.lst [.int a, .int b]] : Store) = S0 at h0
  generalize hl : S.length = l at h0
  obtain ⟨cs, ys, a3, a5, a7, a8, S1, c1, c2, g, h1, t⟩ := k11_turns (l := l) (some (.scr ns)) (some (.d (.int (k : Nat)))) e9 e10 e11 e12 [.int 1, .int 2, .int 3, .int 4, .int 5, .int 6, .int 7] (.int 0) e3 e4 e5 e6 e7 e8 S0 h0
  have hr : rngK (.d (.int 8)) S0 = .ok (.d (.list [.int 0, .int 1, .int 2, .int 3, .int 4, .int 5, .int 6, .int 7])) S0 := by
    have : rngK (.d (.int 8)) S0 = _ := rngK_nat (k := 8) (by omega)
    rw [this]
    rfl
  have rf := fun v hv => lrefused g (v := v) hv S1
  have r1 := rf .none rfl
  have r2 := rf (.str "d") (by decide +kernel)
  have r3 := rf (.str "") (by decide +kernel)
  have r4 := rf (.int 0) rfl
  have r5 := rf (.tuple [.str "a"]) rfl
  have cf : Fit (.list cs) := (fit2 (script_lim c1 c2).lst (by omega) (by omega)).toFit
  have od := fun v h1 h2 => lout_drawing (v := v) c1 c2 h1 h2 S1
  have os := fun v => lout_script (v := v) cf list_no_script S1
  have d1 := od .none (by simp [cnI]) (not_good rfl)
  have d2 := od (.str "a") (by simp [cnI]) (not_good rfl)
  have d3 := od (.list ys) (by have := g.meas.1; simp; omega) (not_good rfl)
  have d4 := od (.tuple [.int 0, .int 0]) (by simp [cnI]) bad_zero
  have d5 := od (.tuple [.tuple [.str "a", .tuple [.str "a"]]]) (by simp [cnI]) bad_twice
  have w1 : neG (.str "drawing!") (.str "drawing!") = some (dB false) := by kernel_rfl
  have w2 : neG (.str "script!") (.str "script!") = some (dB false) := by kernel_rfl
  have s1 : (asgF 2 (refE (callE (F__law_source) (asL [rdE 0, rdE 1])))) [some (.scr ns), some (.d (.int (k : Nat))), e2, e3, e4, e5, e6, e7, e8, e9, e10, e11, e12] S = .next [some (.scr ns), some (.d (.int (k : Nat))), some (.ref l), e3, e4, e5, e6, e7, e8, e9, e10, e11, e12] S0 := by
    simp [q1, hS0, hl]
  have s2 : (forS (rng1 (cE (.int 8))) (tgN 3) (b_law_k11_1)) [some (.scr ns), some (.d (.int (k : Nat))), some (.ref l), e3, e4, e5, e6, e7, e8, e9, e10, e11, e12] S0 = .next [some (.scr ns), some (.d (.int (k : Nat))), some (.ref l), a3, some (.d (.tuple cs)), a5, some (.d (.tuple ys)), a7, a8, e9, e10, e11, e12] S1 := by
    rw [forS_ap, rng1_ap, cE_ap, RE.bind_ok, hr, RE.bindS_ok]
    exact t
  unfold b_law_k11_4
  rw [seqS_ap, s1, RS.bind_next, seqS_ap, s2, RS.bind_next]
  simp [forD, b_law_k11_2, b_law_k11_3, r1, r2, r3, r4, r5, d1, d2, d3, d4, d5, os, w1, w2]
theorem k11_loop (ns : List Int) : ∀ (xs : List PyData) (a1 a2 a3 a4 a5 a6 a7 a8 a9 a10 a11 a12 : Option EV) (S : Store), (∀ x, x ∈ xs → ∃ k : Nat, x = .int (k : Nat) ∧ k ≤ 1000) → ∃ b1 b2 b3 b4 b5 b6 b7 b8 b9 b10 b11 b12 S', forD (tgN 1) b_law_k11_4 xs [some (.scr ns), a1, a2, a3, a4, a5, a6, a7, a8, a9, a10, a11, a12] S = .next [some (.scr ns), b1, b2, b3, b4, b5, b6, b7, b8, b9, b10, b11, b12] S'
  | [], a1, a2, a3, a4, a5, a6, a7, a8, a9, a10, a11, a12, S, _ => ⟨_, _, _, _, _, _, _, _, _, _, _, _, S, rfl⟩
  | x :: xs, a1, a2, a3, a4, a5, a6, a7, a8, a9, a10, a11, a12, S, h => by
    obtain ⟨k, rfl, hk⟩ := h x List.mem_cons_self
    obtain ⟨_, S1, e, c1, c2, c3, c4, c5, c6, c7, c8, c9, c10, c11, c12, rfl⟩ := (k11_cell ns k hk a2 a3 a4 a5 a6 a7 a8 a9 a10 a11 a12 S).elim
    obtain ⟨b1, b2, b3, b4, b5, b6, b7, b8, b9, b10, b11, b12, S', e2⟩ := k11_loop ns xs c1 c2 c3 c4 c5 c6 c7 c8 c9 c10 c11 c12 S1 fun x hx => h x (List.mem_cons_of_mem _ hx)
    refine ⟨b1, b2, b3, b4, b5, b6, b7, b8, b9, b10, b11, b12, S', ?_⟩
    unfold forD
    simp only [tgN_ap, List.set_cons_succ, List.set_cons_zero, e]
    exact e2
theorem k11_last (ns : List Int) (a1 a2 a3 a4 a5 a6 a7 a8 a9 a10 a11 a12 : Option EV) (S : Store) : (seqS (asgF 10 (tupE [tupE [cE (.str ("c" : Str)), tupE [cE (.int 0), cE (.str ("a" : Str)), cE (.str ("b" : Str))]], cE (.int 1)])) (seqS (ifS (neE (callE (F_arranged) (asL [tupE [tupE [cE (.str ("group" : Str)), cE (.str ("b" : Str)), cE (.str ("a" : Str)), cE (.str ("c" : Str))], tupE [cE (.str ("up" : Str)), cE (.str ("a" : Str))], tupE [cE (.str ("above" : Str)), cE (.str ("c" : Str)), cE (.str ("a" : Str))]], rdE 10])) (tupE [tupE [cE (.str ("c" : Str)), tupE [cE (.int 0), cE (.str ("b" : Str)), cE (.str ("a" : Str))]], cE (.int 1)])) (retS (cE (.bool false))) (nopS)) (seqS (asgF 11 (tupE [tupE [cE (.str ("group" : Str)), cE (.str ("a" : Str)), cE (.str ("b" : Str)), cE (.str ("c" : Str))], tupE [cE (.str ("ungroup" : Str)), cE (.str ("c" : Str))], tupE [cE (.str ("group" : Str)), cE (.str ("b" : Str)), cE (.str ("c" : Str)), cE (.str ("a" : Str))]])) (seqS (ifS (neE (callE (F_arranged) (asL [rdE 11, tupE [cE (.str ("b" : Str)), cE (.int 0), cE (.str ("a" : Str)), cE (.int 1)]])) (tupE [cE (.int 0), cE (.str ("b" : Str)), cE (.str ("a" : Str)), cE (.int 1)])) (retS (cE (.bool false))) (nopS)) (retS (eqE (slE (callE (F_arranged) (asL [slE (rdE 11) none (some (cE (.int 1))), tupE [cE (.int 0), cE (.str ("b" : Str)), cE (.int 1), cE (.str ("a" : Str))]])) (some (cE (.int 2))) none) (tupE [tupE [cE (.str ("c" : Str)), tupE [cE (.str ("b" : Str)), cE (.str ("a" : Str))]]]))))))) [some (.scr ns), a1, a2, a3, a4, a5, a6, a7, a8, a9, a10, a11, a12] S = .ret (.d (.bool true)) S := by
  kernel_rfl
theorem count_ok (lo hi n : Nat) : ∃ m : Nat, m ≤ max lo hi ∧ (if (lo : Int) < (if (n : Int) < (hi : Int) then (n : Int) else (hi : Int)) then (if (n : Int) < (hi : Int) then (n : Int) else (hi : Int)) else (lo : Int)) = (m : Int) := by
  refine ⟨max lo (min n hi), by omega, ?_⟩
  split <;> split <;> omega
theorem rng_ok {m : Nat} (hm : m ≤ 1000) : ∀ x, x ∈ rngL 0 m → ∃ k : Nat, x = .int (k : Nat) ∧ k ≤ 1000 := fun x hx => by
  unfold rngL at hx
  obtain ⟨i, hi, rfl⟩ := List.mem_map.mp hx
  have := List.mem_range.mp hi
  exact ⟨i, by simp, by omega⟩
theorem k11 (ns : List Int) (hl : ns.length ≤ 63) : ∃ S', F_law_k11 [.scr ns] [] = .ok (.d (.bool true)) S' := by
  obtain ⟨m, hm1, hm2⟩ := count_ok 6 24 ns.length
  obtain ⟨b1, b2, b3, b4, b5, b6, b7, b8, b9, b10, b11, b12, S', e⟩ := k11_loop ns (rngL 0 m) none none none none none none none none none none none none [] (rng_ok (by omega))
  refine ⟨S', ?_⟩
  show endF (g_law_k11 [some (.scr ns), none, none, none, none, none, none, none, none, none, none, none, none] []) = _
  unfold g_law_k11
  have s2 : (forS (rng1 (maxE (cE (.int 6)) (minE (cE (.int 24)) (lenE (rdE 0))))) (tgN 1) (b_law_k11_4)) [some (.scr ns), none, none, none, none, none, none, none, none, none, none, none, none] [] = .next [some (.scr ns), b1, b2, b3, b4, b5, b6, b7, b8, b9, b10, b11, b12] S' := by
    have : (maxE (cE (.int 6)) (minE (cE (.int 24)) (lenE (rdE 0)))) [some (.scr ns), none, none, none, none, none, none, none, none, none, none, none, none] [] = .ok (.d (.int (m : Nat))) [] := by
      rw [← hm2]
      simp
    rw [forS_ap, rng1_ap, this, RE.bind_ok, rngK_nat (by omega), RE.bindS_ok]
    exact e
  rw [seqS_ap, s2, RS.bind_next, k11_last]
  rfl
end P

set_option Elab.async false
set_option linter.all false
set_option maxRecDepth 100000
set_option maxHeartbeats 4000000
/-! R12: rows behind a command, part by part. -/
namespace P
open PySem PySem.Spec PyProof.Rows L2 DL U

/-! ### rows behind a command, part by part -/
theorem app_split {A B : List PyData} {o : Nat} (h : o < (A ++ B).length) : (∃ C z D, A = C ++ z :: D ∧ C.length = o) ∨ ∃ C z D, B = C ++ z :: D ∧ A.length + C.length = o := by
  by_cases hl : o < A.length
  · obtain ⟨C, z, D, e, hC⟩ := row_split hl
    exact .inl ⟨C, z, D, e, hC⟩
  · rw [List.length_append] at h
    obtain ⟨C, z, D, e, hC⟩ := row_split (show o - A.length < B.length by omega)
    exact .inr ⟨C, z, D, e, by omega⟩
theorem spot_split {row : List PyData} {m : PyData} {o : Nat} (h : spot row m = some o) : ∃ C z D, row = C ++ z :: D ∧ C.length = o ∧ PyData.eqv (called z) m = true ∧ ∀ y, y ∈ C → PyData.eqv (called y) m = false := by
  obtain ⟨hl, he⟩ := spot_lt h
  obtain ⟨C, z, D, rfl, rfl⟩ := row_split hl
  refine ⟨C, z, D, rfl, rfl, by simpa using he, fun y hy => ?_⟩
  unfold spot at h
  obtain ⟨_, _, h3⟩ := List.findIdx?_eq_some_iff_getElem.mp h
  obtain ⟨j, hj, e⟩ := List.getElem_of_mem hy
  have := h3 j hj
  rw [List.getElem_append_left hj, e] at this
  simpa using this
theorem put_at {C D : List PyData} {y : PyData} : put (C ++ D) C.length y = C ++ y :: D := put_back
theorem put_next {C D : List PyData} {z y : PyData} : put (C ++ z :: D) (C.length + 1) y = C ++ z :: y :: D := by
  have : put ((C ++ [z]) ++ D) (C ++ [z]).length y = (C ++ [z]) ++ y :: D := put_back
  simpa using this
/-- beside: what it comes to -/
theorem beside_form {s : Str} {n m : PyData} {tk : Bool} {A B : List PyData} {y : PyData} (hy : PyData.eqv (called y) m = false) : (spot (A ++ B) m = none ∧ rowP s [n, m] tk (A ++ y :: B) A.length = A ++ y :: B) ∨
    ∃ C z D, A ++ B = C ++ z :: D ∧ spot (A ++ B) m = some C.length ∧ rowP s [n, m] tk (A ++ y :: B) A.length = if s = "above" then C ++ z :: y :: D else C ++ y :: z :: D := by
  rw [← rowL_beside hy]
  unfold rowL
  simp only
  cases q : spot (A ++ B) m with
  | none => exact .inl ⟨rfl, rfl⟩
  | some o =>
    obtain ⟨C, z, D, e, rfl, _⟩ := spot_split q
    refine .inr ⟨C, z, D, e, rfl, ?_⟩
    simp only
    rw [e]
    split
    · exact put_next
    · rw [Nat.add_zero]
      exact put_at
/-- group: what it comes to -/
theorem group_form {s : Str} {n m g : PyData} {A B : List PyData} {y : PyData} (hy : PyData.eqv (called y) m = false) : (spot (A ++ B) m = none ∧ rowP s [n, m, g] false (A ++ y :: B) A.length = A ++ y :: B) ∨
    (∃ C z D, A = C ++ z :: D ∧ PyData.eqv (called z) m = true ∧ spot (A ++ B) m = some C.length ∧ rowP s [n, m, g] false (A ++ y :: B) A.length = C ++ D ++ .tuple [g, .tuple [z, y]] :: B) ∨
    ∃ C z D, B = C ++ z :: D ∧ PyData.eqv (called z) m = true ∧ spot (A ++ B) m = some (A.length + C.length) ∧ rowP s [n, m, g] false (A ++ y :: B) A.length = A ++ C ++ .tuple [g, .tuple [y, z]] :: D := by
  rw [← rowL_group hy]
  unfold rowL
  simp only
  cases q : spot (A ++ B) m with
  | none => exact .inl ⟨rfl, rfl⟩
  | some o =>
    obtain ⟨hl, he⟩ := spot_lt q
    simp only [Bool.false_eq_true, if_false]
    rcases app_split hl with ⟨C, z, D, rfl, rfl⟩ | ⟨C, z, D, rfl, rfl⟩
    · have ez : ((C ++ z :: D) ++ B)[C.length]? = some z := by simp
      have ez' : ((C ++ z :: D) ++ B)[C.length] = z := by simp
      rw [ez'] at he
      refine .inr (.inl ⟨C, z, D, rfl, he, rfl, ?_⟩)
      rw [ez]
      simp only
      have e1 : ((C ++ z :: D) ++ B).eraseIdx C.length = (C ++ D) ++ B := by
        rw [List.append_assoc, List.eraseIdx_append_of_length_le (Nat.le_refl _), Nat.sub_self]
        simp
      have l1 : (C ++ z :: D).length = C.length + (D.length + 1) := by simp
      rw [if_neg (by omega), if_pos (by omega), e1]
      have e2 : max (C ++ z :: D).length (C.length + 0) - 1 = (C ++ D).length := by rw [l1, List.length_append]; omega
      rw [e2]
      exact put_at
    · have ez : (A ++ (C ++ z :: D))[A.length + C.length]? = some z := by
        rw [← List.append_assoc, List.getElem?_append_right (by simp)]
        simp
      have ez' : (A ++ (C ++ z :: D))[A.length + C.length] = z := by
        have := List.getElem?_eq_some_iff.mp ez
        exact this.2
      rw [ez'] at he
      refine .inr (.inr ⟨C, z, D, rfl, he, rfl, ?_⟩)
      rw [ez]
      simp only
      have e1 : (A ++ (C ++ z :: D)).eraseIdx (A.length + C.length) = (A ++ C) ++ D := by
        rw [← List.append_assoc, List.eraseIdx_append_of_length_le (by simp)]
        simp
      rw [if_pos (by omega), if_neg (by omega), e1]
      have e2 : max A.length (A.length + C.length + 1) - 1 = (A ++ C).length := by rw [List.length_append]; omega
      rw [e2]
      exact put_at
/-- alone: what it comes to -/
def aloneF (s : Str) (A : List PyData) (y : PyData) (B : List PyData) : List PyData :=
  if s = "ungroup" then (match y with | .tuple [_, .tuple zs] => A ++ zs ++ B | _ => A ++ y :: B) else if s = "front" then A ++ B ++ [y] else if s = "back" then y :: (A ++ B)
  else if s = "up" then (match B with | b :: B' => A ++ b :: y :: B' | [] => A ++ [y]) else (match A.reverse with | a :: A' => A'.reverse ++ y :: a :: B | [] => y :: B)
theorem alone_form {s : Str} (hs : kind s = 1) {n : PyData} {tk : Bool} {A B : List PyData} {y : PyData} : rowP s [n] tk (A ++ y :: B) A.length = aloneF s A y B := by
  rw [← rowL_alone hs]
  unfold rowL aloneF
  simp only
  split
  · rfl
  · split
    · rfl
    · split
      · rfl
      · split
        · cases B with
          | nil =>
            rw [if_neg (by simp)]
          | cons b B' =>
            rw [if_pos (by simp), put_next]
        · rcases List.eq_nil_or_concat A with rfl | ⟨A', a, rfl⟩
          · simp
          · rw [if_pos (by simp)]
            simp only [List.concat_eq_append, List.reverse_append, List.reverse_cons, List.reverse_nil, List.nil_append, List.singleton_append, List.reverse_reverse]
            have : (A' ++ [a]).length - 1 = A'.length := by simp
            rw [this, List.append_assoc]
            exact put_at
theorem down_form {A B : List PyData} {a y : PyData} : aloneF "down" (A ++ [a]) y B = A ++ y :: a :: B := by
  unfold aloneF
  rw [if_neg (by decide +kernel), if_neg (by decide +kernel), if_neg (by decide +kernel), if_neg (by decide +kernel)]
  simp
theorem down_nil {B : List PyData} {y : PyData} : aloneF "down" [] y B = y :: B := by
  unfold aloneF
  rw [if_neg (by decide +kernel), if_neg (by decide +kernel), if_neg (by decide +kernel), if_neg (by decide +kernel)]
  rfl
theorem up_form {A B : List PyData} {b y : PyData} : aloneF "up" A y (b :: B) = A ++ b :: y :: B := by
  unfold aloneF
  rw [if_neg (by decide +kernel), if_neg (by decide +kernel), if_neg (by decide +kernel), if_pos rfl]
theorem up_nil {A : List PyData} {y : PyData} : aloneF "up" A y [] = A ++ [y] := by
  unfold aloneF
  rw [if_neg (by decide +kernel), if_neg (by decide +kernel), if_neg (by decide +kernel), if_pos rfl]
theorem front_form {A B : List PyData} {y : PyData} : aloneF "front" A y B = A ++ B ++ [y] := by
  unfold aloneF
  rw [if_neg (by decide +kernel), if_pos rfl]
theorem back_form {A B : List PyData} {y : PyData} : aloneF "back" A y B = y :: (A ++ B) := by
  unfold aloneF
  rw [if_neg (by decide +kernel), if_neg (by decide +kernel), if_pos rfl]
theorem ungroup_g {A B zs : List PyData} {g : PyData} : aloneF "ungroup" A (.tuple [g, .tuple zs]) B = A ++ zs ++ B := by
  unfold aloneF
  rw [if_pos rfl]
theorem ungroup_t {A B : List PyData} {y : PyData} (h : isTup y = false) : aloneF "ungroup" A y B = A ++ y :: B := by
  unfold aloneF
  rw [if_pos rfl]
  cases y <;> first | rfl | cases h
/-! ### what a command does with rows of any depth -/
theorem done_keep {s : Str} {n : PyData} {r : List PyData} (ha : (n :: r).all isName = true) (hnd : (n :: r).Nodup) (hk : kind s = (n :: r).length) {tk : Bool} {ys : List PyData} (wf : wfAll ys = true) (nd : (idsAll ys).Nodup) :
    Keep (newN r tk) ys (doneAll (rowP s (n :: r) tk) n ys) := by
  have names : ∀ x, x ∈ n :: r → isThing x = true := fun x hx => name_thing (List.all_eq_true.mp ha x hx)
  have hn := names n List.mem_cons_self
  have hed := edit hn (rowP s (n :: r) tk) _ (Nat.le_refl (cnAll ys)) wf nd
  cases q : wayAll 0 ys n with
  | none =>
    obtain ⟨_, e1, e2⟩ := hed.1 q
    unfold doneAll
    rw [e1]
    simp only
    rw [e2]
    exact Keep.perm wf (.refl _)
  | some w =>
    obtain ⟨_, hv, he⟩ := hed.2 w q
    obtain ⟨p1, p2, p3, p4, p5⟩ := way_row _ (Nat.le_refl (cnAll ys)) wf nd q
    rw [← he]
    refine withRow_keep w ys wf hv (rowP_keep ha hk p1 p5 fun m o hm hs => ?_)
    exact spot_ne p1 hn (names m (List.mem_cons_of_mem _ hm)) (fun z => (List.nodup_cons.mp hnd).1 (by rw [z]; exact hm)) p4 hs
theorem Keep.mem {G R R' : List PyData} (k : Keep G R R') {x : PyData} (hx : x ∈ idsAll R') : x ∈ G ∨ x ∈ idsAll R := by
  obtain ⟨_, _, add, del, h1, h2⟩ := k
  have := h2.mem_iff.mp (List.mem_append_right del hx)
  rcases List.mem_append.mp this with q | q
  · rcases h1 with rfl | ⟨g, hg, rfl⟩
    · cases q
    · simp at q
      rw [q]
      exact .inl hg
  · exact .inr q
end P

set_option Elab.async false
set_option linter.all false
set_option maxRecDepth 100000
set_option maxHeartbeats 4000000
/-! S1: a name at its place in a drawing of any depth. -/
namespace P
open PySem PySem.Spec PyProof.Rows L2 DL U


/-! ### a row within a drawing -/
abbrev Fr := List PyData × PyData × List PyData
def plug : List Fr → List PyData → List PyData
  | [], R => R
  | (A, g, B) :: fs, R => A ++ .tuple [g, .tuple (plug fs R)] :: B
def outF : List Fr → List PyData
  | [] => []
  | (A, g, B) :: fs => idsAll A ++ g :: (idsAll B ++ outF fs)
def okF : List Fr → Bool
  | [] => true
  | (A, g, B) :: fs => wfAll A && (isName g && (wfAll B && okF fs))
def nmF (fs : List Fr) : List PyData := fs.map fun f => f.2.1
def thLf : List Fr → List PyData
  | [] => []
  | (A, _, _) :: fs => thAll A ++ thLf fs
def thRf : List Fr → List PyData
  | [] => []
  | (_, _, B) :: fs => thRf fs ++ thAll B
theorem plug_ids : ∀ (fs : List Fr) (R : List PyData), (idsAll (plug fs R)).Perm (outF fs ++ idsAll R)
  | [], R => by simp [plug, outF]
  | (A, g, B) :: fs, R => by
    have ih := plug_ids fs R
    rw [plug, outF, (all_app _ _).2.1, idsAll_cons, idsI_g]
    simp only [List.append_assoc, List.cons_append]
    refine List.Perm.append_left _ (List.Perm.cons _ ?_)
    refine (ih.append_right _).trans ?_
    refine perm_of_count fun a => ?_
    simp only [List.count_append]
    omega
theorem plug_wf : ∀ (fs : List Fr) (R : List PyData), wfAll (plug fs R) = (okF fs && wfAll R)
  | [], R => by simp [plug, okF]
  | (A, g, B) :: fs, R => by
    rw [plug, okF, (all_app _ _).1, wfAll_cons, wfI_g, plug_wf fs R]
    cases wfAll A <;> cases isName g <;> cases wfAll B <;> cases okF fs <;> cases wfAll R <;> rfl
theorem plug_th : ∀ (fs : List Fr) (R : List PyData), thAll (plug fs R) = thLf fs ++ (thAll R ++ thRf fs)
  | [], R => by simp [plug, thLf, thRf]
  | (A, g, B) :: fs, R => by
    rw [plug, thLf, thRf, (all_app _ _).2.2.2.1, thAll_cons, thI_g, plug_th fs R]
    simp only [List.append_assoc]
theorem called_t {x : PyData} (h : wfI x = true) (h2 : idsI x = [x]) : called x = x := by
  have := called_ids h
  rw [h2] at this
  simpa using this
theorem zip {n : PyData} : ∀ (N : Nat) {ys : List PyData}, cnAll ys ≤ N → wfAll ys = true → n ∈ idsAll ys → ∃ fs A y B, ys = plug fs (A ++ y :: B) ∧ called y = n
  | N, ys, hc, w, h => by
    obtain ⟨x, hx, hnx⟩ := ids_mem.mp h
    obtain ⟨A, B, e⟩ := List.append_of_mem hx
    rcases wf_form (wf_mem w hx).1 with ⟨g, zs, rfl, hg, wz⟩ | ⟨_, _, t2, _⟩
    · rw [idsI_g] at hnx
      rcases List.mem_cons.mp hnx with rfl | hz
      · exact ⟨[], A, _, B, e, rfl⟩
      · have := cn_mem hx
        simp only [cnI_tup, cnAll_cons] at this
        match N, hc with
        | 0, hc => omega
        | N + 1, hc =>
          obtain ⟨fs, A2, y, B2, e2, q⟩ := zip N (ys := zs) (by omega) wz hz
          exact ⟨(A, g, B) :: fs, A2, y, B2, by rw [plug, ← e2]; exact e, q⟩
    · rw [t2] at hnx
      simp at hnx
      exact ⟨[], A, x, B, e, by rw [called_t (wf_mem w hx).1 t2, hnx]⟩
theorem spot_out {A : List PyData} {n : PyData} (w : wfAll A = true) (hn : isThing n = true) (h : n ∉ idsAll A) : spot A n = none := by
  rw [spot_none]
  intro y hy
  have wy := (wf_mem w hy).1
  rw [← Bool.not_eq_true, key_eqv (thing_key (called_key wy)) (thing_key hn)]
  intro e
  exact h (ids_mem.mpr ⟨y, hy, by rw [← e]; exact called_ids wy⟩)
theorem way_out {A : List PyData} {n : PyData} (w : wfAll A = true) (nd : (idsAll A).Nodup) (hn : isThing n = true) (h : n ∉ idsAll A) : wayAll 0 A n = none := by
  have hed := edit hn (fun row _ => row) _ (Nat.le_refl (cnAll A)) w nd
  cases q : wayAll 0 A n with
  | none => rfl
  | some v => exact absurd (hed.2 v q).1 h
theorem done_out {f : List PyData → Nat → List PyData} {A : List PyData} {n : PyData} (w : wfAll A = true) (nd : (idsAll A).Nodup) (hn : isThing n = true) (h : n ∉ idsAll A) : doneMap f n A = A :=
  ((edit hn f _ (Nat.le_refl (cnAll A)) w nd).1 (way_out w nd hn h)).2.2
theorem whA_out {A : List PyData} {n : PyData} (w : wfAll A = true) (nd : (idsAll A).Nodup) (hn : isThing n = true) (h : n ∉ idsAll A) : whA A n = none ∧ whL A n = none := by
  have e : whA A n = none := by
    rw [where_way hn _ (Nat.le_refl _) w nd, way_out w nd hn h]
    rfl
  refine ⟨e, ?_⟩
  unfold whA at e
  rw [spot_out w hn h] at e
  exact e
theorem whL_app {n : PyData} {X : List PyData} : ∀ {A : List PyData}, whL A n = none → whL (A ++ X) n = whL X n
  | [], _ => rfl
  | a :: A, h => by
    rw [whL_cons] at h
    rw [List.cons_append, whL_cons]
    cases q : whI a n with
    | none =>
      rw [q] at h
      exact whL_app h
    | some w => rw [q] at h; cases h
/-- what holds of the outermost row -/
theorem plug_parts {A B : List PyData} {g : PyData} {zs : List PyData} (w : wfAll (A ++ .tuple [g, .tuple zs] :: B) = true) (nd : (idsAll (A ++ .tuple [g, .tuple zs] :: B)).Nodup) :
    wfAll A = true ∧ isName g = true ∧ wfAll zs = true ∧ wfAll B = true ∧ (idsAll A).Nodup ∧ (idsAll zs).Nodup ∧ (idsAll B).Nodup := by
  rw [(all_app _ _).1, wfAll_cons, wfI_g] at w
  simp only [Bool.and_eq_true] at w
  rw [(all_app _ _).2.1, idsAll_cons, idsI_g] at nd
  have n1 := List.nodup_append.mp nd
  have n2 := List.nodup_append.mp n1.2.1
  exact ⟨w.1, w.2.1.1, w.2.1.2, w.2.2, n1.1, (List.nodup_cons.mp n2.1).2, n2.2.1⟩
theorem plug_spot {A B : List PyData} {g n : PyData} {zs : List PyData} (w : wfAll (A ++ .tuple [g, .tuple zs] :: B) = true) (nd : (idsAll (A ++ .tuple [g, .tuple zs] :: B)).Nodup) (hn : isThing n = true)
    (hA : n ∉ idsAll A) (hg : n ≠ g) (hB : n ∉ idsAll B) : spot (A ++ .tuple [g, .tuple zs] :: B) n = none := by
  obtain ⟨w1, w2, w3, w4, _⟩ := plug_parts w nd
  rw [spot_none]
  intro y hy
  rcases List.mem_append.mp hy with q | q
  · exact spot_none.mp (spot_out w1 hn hA) y q
  · rcases List.mem_cons.mp q with rfl | q
    · rw [← Bool.not_eq_true, show called (.tuple [g, .tuple zs]) = g from rfl, key_eqv (thing_key (name_thing w2)) (thing_key hn)]
      exact fun e => hg e.symm
    · exact spot_none.mp (spot_out w4 hn hB) y q
theorem out_parts {A B : List PyData} {g n : PyData} {fs : List Fr} (h : n ∉ outF ((A, g, B) :: fs)) : n ∉ idsAll A ∧ n ≠ g ∧ n ∉ idsAll B ∧ n ∉ outF fs := by
  rw [outF] at h
  simp only [List.mem_append, List.mem_cons, not_or] at h
  exact h
theorem plug_done {f : List PyData → Nat → List PyData} {n : PyData} (hn : isThing n = true) : ∀ (fs : List Fr) (R : List PyData), wfAll (plug fs R) = true → (idsAll (plug fs R)).Nodup → n ∉ outF fs → doneAll f n (plug fs R) = plug fs (doneAll f n R)
  | [], R, _, _, _ => rfl
  | (A, g, B) :: fs, R, w, nd, h => by
    obtain ⟨h1, h2, h3, h4⟩ := out_parts h
    rw [plug] at w nd
    obtain ⟨w1, w2, w3, w4, n1, n2, n3⟩ := plug_parts w nd
    have ih := plug_done (f := f) hn fs R w3 n2 h4
    rw [plug, plug]
    conv => lhs; unfold doneAll
    rw [plug_spot w nd hn h1 h2 h3]
    simp only
    rw [doneMap_app, doneMap, doneI_g, ih, done_out w1 n1 hn h1, done_out w4 n3 hn h3]
theorem plug_wh {n : PyData} (hn : isThing n = true) : ∀ (fs : List Fr) (R : List PyData), wfAll (plug fs R) = true → (idsAll (plug fs R)).Nodup → n ∉ outF fs → whA (plug fs R) n = (whA R n).map (nmF fs ++ ·)
  | [], R, _, _, _ => by
    cases q : whA R n <;> simp [plug, nmF, q]
  | (A, g, B) :: fs, R, w, nd, h => by
    obtain ⟨h1, h2, h3, h4⟩ := out_parts h
    rw [plug] at w nd
    obtain ⟨w1, w2, w3, w4, n1, n2, n3⟩ := plug_parts w nd
    have ih := plug_wh hn fs R w3 n2 h4
    rw [plug]
    conv => lhs; unfold whA
    rw [plug_spot w nd hn h1 h2 h3]
    simp only
    rw [whL_app (whA_out w1 n1 hn h1).2, whL_cons, whI_g, ih]
    cases q : whA R n with
    | none =>
      simp only [Option.map_none]
      exact (whA_out w4 n3 hn h3).2
    | some v => simp [nmF]
/-! ### the things of a name -/
mutual
def wiI : PyData → PyData → Option (List PyData)
  | .tuple [g, .tuple ys], n => if PyData.eqv g n = true then some (thAll ys) else wiL ys n
  | x, n => if PyData.eqv x n = true then some [n] else none
def wiL : List PyData → PyData → Option (List PyData)
  | [], _ => none
  | x :: xs, n => match wiI x n with
    | some w => some w
    | none => wiL xs n
end
theorem wiI_g {g n : PyData} {ys : List PyData} : wiI (.tuple [g, .tuple ys]) n = if PyData.eqv g n = true then some (thAll ys) else wiL ys n := by rw [wiI]
theorem wiI_t {x n : PyData} (h : isTup x = false) : wiI x n = if PyData.eqv x n = true then some [n] else none := by
  unfold wiI
  split
  · cases h
  · rfl
theorem wiL_nil {n : PyData} : wiL [] n = none := by rw [wiL]
theorem wiL_cons {x n : PyData} {xs : List PyData} : wiL (x :: xs) n = match wiI x n with
    | some w => some w
    | none => wiL xs n := by rw [wiL]
theorem wiL_none {n : PyData} : ∀ {A : List PyData}, wiL A n = none ↔ ∀ x, x ∈ A → wiI x n = none
  | [] => by simp [wiL_nil]
  | a :: A => by
    rw [wiL_cons]
    have ih := wiL_none (n := n) (A := A)
    cases q : wiI a n with
    | none => simp [ih, q]
    | some v => simp [q]
theorem wiL_app {n : PyData} {X : List PyData} : ∀ {A : List PyData}, wiL A n = none → wiL (A ++ X) n = wiL X n
  | [], _ => rfl
  | a :: A, h => by
    rw [wiL_cons] at h
    rw [List.cons_append, wiL_cons]
    cases q : wiI a n with
    | none =>
      rw [q] at h
      exact wiL_app h
    | some w => rw [q] at h; cases h
theorem wi_out {n : PyData} (hn : isThing n = true) : ∀ (N : Nat) {A : List PyData}, cnAll A ≤ N → wfAll A = true → n ∉ idsAll A → wiL A n = none
  | N, A, hc, w, h => by
    rw [wiL_none]
    intro x hx
    have hx2 : n ∉ idsI x := fun z => h (ids_mem.mpr ⟨x, hx, z⟩)
    rcases wf_form (wf_mem w hx).1 with ⟨g, zs, rfl, hg, wz⟩ | ⟨tx, t2, t3, _⟩
    · rw [idsI_g, List.mem_cons, not_or] at hx2
      have := cn_mem hx
      simp only [cnI_tup, cnAll_cons] at this
      have e : ¬ (PyData.eqv g n = true) := by
        rw [key_eqv (thing_key (name_thing hg)) (thing_key hn)]
        exact fun z => hx2.1 z.symm
      rw [wiI_g, if_neg e]
      match N, hc with
      | 0, hc => omega
      | N + 1, hc => exact wi_out hn N (by omega) wz hx2.2
    · rw [t3] at hx2
      simp at hx2
      have e : ¬ (PyData.eqv x n = true) := by
        rw [key_eqv (thing_key tx) (thing_key hn)]
        exact fun z => hx2 z.symm
      rw [wiI_t t2, if_neg e]
theorem wi_here {y n : PyData} (w : wfI y = true) (hn : isThing n = true) (h : called y = n) : wiI y n = some (thI y) := by
  rcases wf_form w with ⟨g, zs, rfl, hg, wz⟩ | ⟨tx, t2, t3, t4, _⟩
  · have e : g = n := h
    rw [wiI_g, if_pos ((key_eqv (thing_key (name_thing hg)) (thing_key hn)).mpr e), thI_g]
  · have e : y = n := by rw [← h, called_t w t3]
    rw [wiI_t t2, if_pos ((key_eqv (thing_key tx) (thing_key hn)).mpr e), t4, e]
theorem plug_wi {n : PyData} (hn : isThing n = true) : ∀ (fs : List Fr) (R : List PyData), wfAll (plug fs R) = true → (idsAll (plug fs R)).Nodup → n ∉ outF fs → wiL (plug fs R) n = wiL R n
  | [], R, _, _, _ => rfl
  | (A, g, B) :: fs, R, w, nd, h => by
    obtain ⟨h1, h2, h3, h4⟩ := out_parts h
    rw [plug] at w nd
    obtain ⟨w1, w2, w3, w4, n1, n2, n3⟩ := plug_parts w nd
    have ih := plug_wi hn fs R w3 n2 h4
    have e : ¬ (PyData.eqv g n = true) := by
      rw [key_eqv (thing_key (name_thing w2)) (thing_key hn)]
      exact fun z => h2 z.symm
    rw [plug, wiL_app (wi_out hn _ (Nat.le_refl _) w1 h1), wiL_cons, wiI_g, if_neg e, ih]
    cases q : wiL R n with
    | none => exact wi_out hn _ (Nat.le_refl _) w4 h3
    | some v => rfl
/-! ### a name at its place -/
structure At (ys : List PyData) (n : PyData) (fs : List Fr) (A : List PyData) (y : PyData) (B : List PyData) : Prop where
  eq : ys = plug fs (A ++ y :: B)
  cl : called y = n
theorem Gd.at {ys : List PyData} (g : Gd ys) {n : PyData} (h : n ∈ idsAll ys) : ∃ fs A y B, At ys n fs A y B := by
  obtain ⟨fs, A, y, B, e, q⟩ := zip _ (Nat.le_refl _) g.wf h
  exact ⟨fs, A, y, B, e, q⟩
section
variable {ys : List PyData} {n : PyData} {fs : List Fr} {A B : List PyData} {y : PyData}
theorem At.row (h : At ys n fs A y B) (g : Gd ys) : okF fs = true ∧ wfAll (A ++ y :: B) = true ∧ (outF fs ++ idsAll (A ++ y :: B)).Nodup := by
  have w := g.wf
  rw [h.eq, plug_wf, Bool.and_eq_true] at w
  refine ⟨w.1, w.2, ?_⟩
  have nd := g.nd
  rw [h.eq] at nd
  exact (plug_ids fs _).nodup_iff.mp nd
theorem At.wfs (h : At ys n fs A y B) (g : Gd ys) : wfAll A = true ∧ wfI y = true ∧ wfAll B = true := by
  have := (h.row g).2.1
  rw [(all_app _ _).1, wfAll_cons] at this
  simp only [Bool.and_eq_true] at this
  exact this
theorem At.thing (h : At ys n fs A y B) (g : Gd ys) : isThing n = true := by
  rw [← h.cl]
  exact called_key (h.wfs g).2.1
theorem At.out (h : At ys n fs A y B) (g : Gd ys) : n ∉ outF fs ∧ n ∉ idsAll A ∧ n ∉ idsAll B ∧ (idsAll (A ++ y :: B)).Nodup := by
  have nd := (h.row g).2.2
  have hy : n ∈ idsI y := by rw [← h.cl]; exact called_ids (h.wfs g).2.1
  have n1 := List.nodup_append.mp nd
  have n2 := n1.2.1
  have hm : n ∈ idsAll (A ++ y :: B) := ids_mem.mpr ⟨y, by simp, hy⟩
  have o := nd_out n2 hy
  refine ⟨fun z => n1.2.2 n z n hm rfl, fun z => ?_, fun z => ?_, n2⟩
  · obtain ⟨x, hx, q⟩ := ids_mem.mp z
    exact o x (.inl hx) q
  · obtain ⟨x, hx, q⟩ := ids_mem.mp z
    exact o x (.inr hx) q
theorem At.spot (h : At ys n fs A y B) (g : Gd ys) : P.spot (A ++ y :: B) n = some A.length := by
  refine spot_at (fun x hx => ?_) ?_
  · exact spot_none.mp (spot_out (h.wfs g).1 (h.thing g) (h.out g).2.1) x hx
  · rw [key_eqv (thing_key (called_key (h.wfs g).2.1)) (thing_key (h.thing g))]
    exact h.cl
theorem At.wh (h : At ys n fs A y B) (g : Gd ys) : whA ys n = some (nmF fs ++ [.int (A.length : Nat)]) := by
  have w := g.wf
  have nd := g.nd
  rw [h.eq] at w nd ⊢
  rw [plug_wh (h.thing g) fs _ w nd (h.out g).1]
  have : whA (A ++ y :: B) n = some [.int (A.length : Nat)] := by
    unfold whA
    rw [h.spot g]
  rw [this]
  rfl
theorem At.wi (h : At ys n fs A y B) (g : Gd ys) : wiL ys n = some (thI y) := by
  have w := g.wf
  have nd := g.nd
  rw [h.eq] at w nd ⊢
  rw [plug_wi (h.thing g) fs _ w nd (h.out g).1, wiL_app (wi_out (h.thing g) _ (Nat.le_refl _) (h.wfs g).1 (h.out g).2.1), wiL_cons, wi_here (h.wfs g).2.1 (h.thing g) h.cl]
theorem At.beh (h : At ys n fs A y B) (g : Gd ys) {s : Str} {r : List PyData} : behC (.tuple (.str s :: n :: r)) ys = plug fs (rowP s (n :: r) (takenB ys (n :: r)) (A ++ y :: B) A.length) := by
  have w := g.wf
  have nd := g.nd
  show doneAll (rowP s (n :: r) (takenB ys (n :: r))) n ys = _
  generalize takenB ys (n :: r) = tk
  rw [h.eq] at w nd ⊢
  rw [plug_done (h.thing g) fs _ w nd (h.out g).1]
  unfold doneAll
  rw [h.spot g]
end
theorem not_in {ys : List PyData} (g : Gd ys) {n : PyData} (hn : isThing n = true) (h : n ∉ idsAll ys) : whA ys n = none ∧ wiL ys n = none ∧ ∀ s r, behC (.tuple (.str s :: n :: r)) ys = ys := by
  refine ⟨(whA_out g.wf g.nd hn h).1, wi_out hn _ (Nat.le_refl _) g.wf h, fun s r => ?_⟩
  show doneAll (rowP s (n :: r) (takenB ys (n :: r))) n ys = _
  unfold doneAll
  rw [spot_out g.wf hn h]
  exact done_out g.wf g.nd hn h
end P

set_option Elab.async false
set_option linter.all false
set_option maxRecDepth 100000
set_option maxHeartbeats 4000000
/-! S2: what single commands leave. -/
namespace P
open PySem PySem.Spec PyProof.Rows L2 DL U


/-! ### moved within the row -/
theorem alone_moved {s : Str} (hu : s ≠ "ungroup") (A : List PyData) (y : PyData) (B : List PyData) : ∃ A' B', aloneF s A y B = A' ++ y :: B' ∧ A' ++ B' = A ++ B := by
  unfold aloneF
  rw [if_neg hu]
  split
  · exact ⟨A ++ B, [], rfl, by simp⟩
  · split
    · exact ⟨[], A ++ B, rfl, rfl⟩
    · split
      · cases B with
        | nil => exact ⟨A, [], rfl, rfl⟩
        | cons b B => exact ⟨A ++ [b], B, by simp, by simp⟩
      · rcases List.eq_nil_or_concat A with rfl | ⟨A', a, rfl⟩
        · exact ⟨[], B, by simp, rfl⟩
        · exact ⟨A', a :: B, by simp, by simp⟩
theorem beside_moved {s : Str} {n m : PyData} {tk : Bool} {A B : List PyData} {y : PyData} (hy : PyData.eqv (called y) m = false) : ∃ A' B', rowP s [n, m] tk (A ++ y :: B) A.length = A' ++ y :: B' ∧ A' ++ B' = A ++ B := by
  rcases beside_form (s := s) (n := n) (tk := tk) (A := A) (B := B) hy with ⟨_, h⟩ | ⟨C, z, D, e, _, h⟩
  · exact ⟨A, B, h, rfl⟩
  · by_cases q : s = "above"
    · rw [if_pos q] at h
      exact ⟨C ++ [z], D, by simpa using h, by simpa using e.symm⟩
    · rw [if_neg q] at h
      exact ⟨C, z :: D, h, e.symm⟩
theorem name_ne {n m : PyData} (hn : isName n = true) (hm : isName m = true) (h : n ≠ m) : PyData.eqv n m = false := by
  rw [← Bool.not_eq_true, key_eqv (thing_key (name_thing hn)) (thing_key (name_thing hm))]
  exact h
/-- a word that moves one item -/
theorem beh_moved {ys : List PyData} {n : PyData} {fs : List Fr} {A B : List PyData} {y : PyData} (h : At ys n fs A y B) (g : Gd ys) {s : Str} {r : List PyData} (ha : (n :: r).all isName = true) (hnd : (n :: r).Nodup) (hk : kind s = (n :: r).length) (hl : r.length ≤ 1) (hu : s ≠ "ungroup") :
    ∃ A' B', At (behC (.tuple (.str s :: n :: r)) ys) n fs A' y B' ∧ A' ++ B' = A ++ B := by
  have e := h.beh g (s := s) (r := r)
  match r, ha, hnd, hk, hl, e with
  | [], ha, hnd, hk, hl, e =>
    rw [alone_form hk] at e
    obtain ⟨A', B', e1, e2⟩ := alone_moved hu A y B
    exact ⟨A', B', ⟨by rw [e, e1], h.cl⟩, e2⟩
  | [m], ha, hnd, hk, hl, e =>
    have hy : PyData.eqv (called y) m = false := by
      rw [h.cl]
      simp only [List.all_cons, Bool.and_eq_true] at ha
      exact name_ne ha.1 ha.2.1 (fun z => (List.nodup_cons.mp hnd).1 (by simp [z]))
    obtain ⟨A', B', e1, e2⟩ := beside_moved (s := s) (n := n) (tk := takenB ys [n, m]) hy
    exact ⟨A', B', ⟨by rw [e, e1], h.cl⟩, e2⟩
theorem row_perm {A B A' B' : List PyData} {y : PyData} (h : A' ++ B' = A ++ B) : (A' ++ y :: B').Perm (A ++ y :: B) :=
  List.perm_middle.trans ((by rw [h] : (y :: (A' ++ B')).Perm (y :: (A ++ B))).trans List.perm_middle.symm)
theorem moved_ids {ys zs : List PyData} {n : PyData} {fs : List Fr} {A B A' B' : List PyData} {y : PyData} (h : At ys n fs A y B) (k : At zs n fs A' y B') (e : A' ++ B' = A ++ B) : (idsAll zs).Perm (idsAll ys) := by
  rw [h.eq, k.eq]
  exact (plug_ids fs _).trans (((all_perm (row_perm e)).2.2.append_left _).trans (plug_ids fs _).symm)
/-- what is left without some things -/
def lessL (xs names : List PyData) : List PyData := xs.filter fun x => !(names.any fun z => PyData.eqv z x)
theorem less_app {xs ys names : List PyData} : lessL (xs ++ ys) names = lessL xs names ++ lessL ys names := by unfold lessL; rw [List.filter_append]
theorem less_self {xs : List PyData} (h : xs.all isThing = true) : lessL xs xs = [] := by
  unfold lessL
  rw [List.filter_eq_nil_iff]
  intro x hx
  have := (any_eqv (thing_key (List.all_eq_true.mp h x hx)) (key_things h)).mpr hx
  rw [this]
  decide
theorem thI_things {y : PyData} (w : wfI y = true) : (thI y).all isThing = true := by
  have := (wf_parts _ (Nat.le_refl (cnAll [y])) (show wfAll [y] = true by simp [w])).1
  simpa using this
theorem less_row {fs : List Fr} {A B M : List PyData} {y : PyData} (w : wfI y = true) (hM : thAll M = thI y) : lessL (thAll (plug fs (A ++ M ++ B))) (thI y) = lessL (thLf fs) (thI y) ++ (lessL (thAll (A ++ B)) (thI y) ++ lessL (thRf fs) (thI y)) := by
  rw [plug_th]
  simp only [less_app, (all_app _ _).2.2.2.1, hM, less_self (thI_things w), List.append_nil, List.nil_append]
theorem less_at {ys : List PyData} {n : PyData} {fs : List Fr} {A B : List PyData} {y : PyData} (h : At ys n fs A y B) (g : Gd ys) : lessL (thAll ys) (thI y) = lessL (thLf fs) (thI y) ++ (lessL (thAll (A ++ B)) (thI y) ++ lessL (thRf fs) (thI y)) := by
  have := less_row (fs := fs) (A := A) (B := B) (M := [y]) (h.wfs g).2.1 (by simp)
  rw [h.eq]
  simpa using this
theorem less_moved {ys zs : List PyData} {n : PyData} {fs : List Fr} {A B A' B' : List PyData} {y : PyData} (h : At ys n fs A y B) (g : Gd ys) (k : At zs n fs A' y B') (g2 : Gd zs) (e : A' ++ B' = A ++ B) : lessL (thAll zs) (thI y) = lessL (thAll ys) (thI y) := by
  rw [less_at h g, less_at k g2, e]
theorem less_ungroup {ys : List PyData} {n : PyData} {fs : List Fr} {A B : List PyData} {y : PyData} (h : At ys n fs A y B) (g : Gd ys) : lessL (thAll (behC (.tuple [.str "ungroup", n]) ys)) (thI y) = lessL (thAll ys) (thI y) := by
  rw [h.beh g, alone_form (by decide +kernel), less_at h g]
  rcases wf_form (h.wfs g).2.1 with ⟨gn, zs, rfl, hg, wz⟩ | ⟨tx, t2, t3, t4, _⟩
  · rw [ungroup_g]
    exact less_row (h.wfs g).2.1 (by rw [thI_g])
  · rw [ungroup_t t2]
    have := less_row (fs := fs) (A := A) (B := B) (M := [y]) (h.wfs g).2.1 (by simp)
    simpa using this
open Classical in
theorem cmd_ok {s : Str} {n : PyData} {r : List PyData} (ha : (n :: r).all isName = true) (hnd : (n :: r).Nodup) (hk : kind s = (n :: r).length) : cmdD (.tuple (.str s :: n :: r)) = true := by
  unfold cmdD
  exact decide_eq_true ⟨ha, hnd, hk, by simp⟩
/-- one command: what the law asks of it -/
theorem one_word {ys : List PyData} (g : Gd ys) {s : Str} {n : PyData} {r : List PyData} (ha : (n :: r).all isName = true) (hnd : (n :: r).Nodup) (hk : kind s = (n :: r).length) :
    (s ≠ "group" → s ≠ "ungroup" → (idsAll (behC (.tuple (.str s :: n :: r)) ys)).Perm (idsAll ys)) ∧
    ((wiL ys n = none ∧ behC (.tuple (.str s :: n :: r)) ys = ys) ∨ ∃ w, wiL ys n = some w ∧ w.all isThing = true ∧ w.length ≤ 40 ∧ (s ≠ "group" → lessL (thAll (behC (.tuple (.str s :: n :: r)) ys)) w = lessL (thAll ys) w)) := by
  have hn : isThing n = true := name_thing (List.all_eq_true.mp ha n (by simp))
  have g2 : Gd (behC (.tuple (.str s :: n :: r)) ys) := by
    exact (behC_gd (cmd_ok ha hnd hk) g).1
  have hk' : kind s = r.length + 1 := by rw [hk, List.length_cons]
  have k12 : s ≠ "group" → r.length ≤ 1 := fun hs => by
    have kl := kind_le s
    rcases (show kind s = 1 ∨ kind s = 2 ∨ kind s = 3 by omega) with q | q | q
    · omega
    · omega
    · exact absurd (kind3 q) hs
  by_cases hin : n ∈ idsAll ys
  · obtain ⟨fs, A, y, B, h⟩ := g.at hin
    refine ⟨fun h1 h2 => ?_, .inr ⟨_, h.wi g, thI_things (h.wfs g).2.1, ?_, fun h1 => ?_⟩⟩
    · obtain ⟨A', B', k, e⟩ := beh_moved h g ha hnd hk (k12 h1) h2
      exact moved_ids h k e
    · have t := g.th
      rw [h.eq, plug_th] at t
      simp only [List.length_append, (all_app _ _).2.2.2.1, thAll_cons] at t
      omega
    · by_cases h2 : s = "ungroup"
      · subst h2
        have : r = [] := by
          have q : kind ("ungroup" : Str) = 1 := by decide +kernel
          exact List.eq_nil_of_length_eq_zero (by omega)
        subst this
        exact less_ungroup h g
      · obtain ⟨A', B', k, e⟩ := beh_moved h g ha hnd hk (k12 h1) h2
        exact less_moved h g k g2 e
  · obtain ⟨_, e2, e3⟩ := not_in g hn hin
    rw [e3]
    exact ⟨fun _ _ => .refl _, .inl ⟨e2, rfl⟩⟩
end P

set_option Elab.async false
set_option linter.all false
set_option maxRecDepth 100000
set_option maxHeartbeats 4000000
/-! S3: the law's own functions. -/
namespace P
open PySem PySem.Spec PyProof.Rows L2 DL U


/-! ### the law's own functions -/
def wiD : Option (List PyData) → PyData
  | none => .none
  | some w => .list w
theorem lwithin_go {n : PyData} (hn : isName n = true) (S : Store) (F : DF) (e0 : Option EV) : ∀ (ys : List PyData) (e2 e3 : Option EV), wfAll ys = true → cnAll ys ≤ 10000 → dpAll ys < 40 → (∀ g zs, .tuple [g, .tuple zs] ∈ ys → ∃ ev, F [.d (.tuple zs), .d n] S = .ok ev S ∧ ev.fixed = some (.d (wiD (wiL zs n)))) →
    (wiL ys n = none ∧ ∃ e2' e3', forD (tgN 2) (b__law_within_1 F) ys [e0, some (.d n), e2, e3] S = .next [e0, some (.d n), e2', e3'] S) ∨ ∃ w ev, wiL ys n = some w ∧ forD (tgN 2) (b__law_within_1 F) ys [e0, some (.d n), e2, e3] S = .ret ev S ∧ ev.fixed = some (.d (.list w))
  | [], e2, e3, _, _, _, _ => .inl ⟨wiL_nil, e2, e3, rfl⟩
  | y :: ys, e2, e3, w, hc, hd, hF => by
    have wm := wf_mem w (List.mem_cons_self (a := y) (l := ys))
    rw [wfAll_cons, Bool.and_eq_true] at w
    rw [cnAll_cons] at hc
    have dy : dpI y < 40 := by omega
    have dr : dpAll ys < 40 := by
      rw [dpAll_cons] at hd
      omega
    have rest := fun e3 => lwithin_go hn S F e0 ys (some (.d y)) e3 w.2 (by omega) dr fun g zs hm => hF g zs (List.mem_cons_of_mem _ hm)
    unfold forD
    simp only [tgN_ap, List.set_cons_succ, List.set_cons_zero]
    rw [wiL_cons]
    have sn := thing_sh (name_thing hn)
    rcases wf_form w.1 with ⟨g, zs, rfl, hg, wz⟩ | ⟨tx, t2, t3, t4, _⟩
    · obtain ⟨ev, f1, f2⟩ := hF g zs (by simp)
      have q0 := eqG_sh (thing_sh (name_thing hg)) sn
      rw [wiI_g]
      by_cases q : PyData.eqv g n = true
      · rw [if_pos q]
        rw [dpI_g] at dy
        have lt : F__law_things 40 [.d (.tuple zs)] S = .ok (.d (.list (thAll zs))) S := lthings_eq S 40 zs wz (by omega) (by
          have := (wf_meas _ (Nat.le_refl (cnAll zs)) wz).1
          simp only [cnI_tup, cnAll_cons] at hc
          omega)
        have hb : b__law_within_1 F [e0, some (.d n), some (.d (.tuple [g, .tuple zs])), e3] S = .ret (.d (.list (thAll zs))) S := by
          unfold b__law_within_1
          simp [q0, q, lt, EV.moved]
        rw [hb]
        exact .inr ⟨_, _, rfl, rfl, rfl⟩
      · rw [if_neg q]
        rw [Bool.not_eq_true] at q
        cases q2 : wiL zs n with
        | none =>
          rw [q2] at f2
          have hb : b__law_within_1 F [e0, some (.d n), some (.d (.tuple [g, .tuple zs])), e3] S = .next [e0, some (.d n), some (.d (.tuple [g, .tuple zs])), some (.d .none)] S := by
            unfold b__law_within_1
            simp [q0, q, f1, f2, wiD, kIsN]
          rw [hb]
          exact rest _
        | some v =>
          rw [q2] at f2
          have hb : b__law_within_1 F [e0, some (.d n), some (.d (.tuple [g, .tuple zs])), e3] S = .ret (.d (.list v)) S := by
            unfold b__law_within_1
            simp [q0, q, f1, f2, wiD, kIsN, EV.moved]
          rw [hb]
          exact .inr ⟨_, _, rfl, rfl, rfl⟩
    · rw [wiI_t t2]
      have h4 : ¬ (tyD y = "tuple") := by cases y <;> first | (simp; done) | cases t2
      have h5 : (tyD y == "tuple") = false := by rw [beq_eq_false_iff_ne]; exact h4
      have q0 := eqG_sh (thing_sh tx) sn
      by_cases q : PyData.eqv y n = true
      · rw [if_pos q]
        have hb : b__law_within_1 F [e0, some (.d n), some (.d y), e3] S = .ret (.own [n]) S := by
          unfold b__law_within_1
          simp [h4, h5, q0, q, EV.moved]
        rw [hb]
        exact .inr ⟨_, _, rfl, rfl, rfl⟩
      · rw [if_neg q]
        rw [Bool.not_eq_true] at q
        have hb : b__law_within_1 F [e0, some (.d n), some (.d y), e3] S = .next [e0, some (.d n), some (.d y), e3] S := by
          unfold b__law_within_1
          simp [h4, h5, q0, q]
        rw [hb]
        exact rest _
theorem lwithin_eq {n : PyData} (hn : isName n = true) (S : Store) : ∀ (d : Nat) (ys : List PyData), wfAll ys = true → cnAll ys ≤ 9000 → dpAll ys < d → d ≤ 40 → ∃ ev, F__law_within d [.d (.tuple ys), .d n] S = .ok ev S ∧ ev.fixed = some (.d (wiD (wiL ys n)))
  | 0, ys, _, _, h, _ => by omega
  | d + 1, ys, w, hc, h, h4 => by
    rcases lwithin_go hn S (F__law_within d) (some (.d (.tuple ys))) ys none none w (by omega) (by omega) (fun g zs hm => by
      obtain ⟨h1, h2, _⟩ := wf_mem w hm
      rw [wfI_g, Bool.and_eq_true] at h1
      rw [dpI_g] at h2
      have := cn_mem hm
      simp only [cnI_tup, cnAll_cons] at this
      exact lwithin_eq hn S d zs h1.2 (by omega) (by omega) (by omega)) with ⟨h1, a, b, h2⟩ | ⟨v, ev, h1, h2, h3⟩
    · refine ⟨.d .none, ?_, by rw [h1]; rfl⟩
      show endF (g__law_within (F__law_within d) [some (.d (.tuple ys)), some (.d n), none, none] S) = _
      unfold g__law_within
      simp [h2, EV.moved]
    · refine ⟨ev, ?_, by rw [h1]; exact h3⟩
      show endF (g__law_within (F__law_within d) [some (.d (.tuple ys)), some (.d n), none, none] S) = _
      unfold g__law_within
      simp [h2]
theorem lwithout_eq {xs ns : List PyData} (hx : xs.all isThing = true) (hn : ns.all isThing = true) (hl : xs.length ≤ 1000) (S : Store) : F__law_without [.d (.list xs), .d (.list ns)] S = .ok (.own (lessL xs ns)) S := by
  show endF (g__law_without [some (.d (.list xs)), some (.d (.list ns)), none] S) = _
  have lc : lcD (tgN 2) (some c__law_without_1) e__law_without_1 [some (.d (.list xs)), some (.d (.list ns)), none] xs [] S = .ok (.own (lessL xs ns)) S := by
    refine lcD_filter xs (fun d hd => ⟨_, rfl, ?_, ?_⟩) (by omega)
    · have hi : inG true d (.list ns) = _ := inG_list (thing_sh (List.all_eq_true.mp hx d hd)) (lids_shaped hn)
      rw [if_pos rfl] at hi
      unfold c__law_without_1
      simp [hi]
    · unfold e__law_without_1
      simp
  unfold g__law_without
  simp [lc, EV.moved]
/-- two lists with the same keys, each once -/
theorem neSet_perm {xs ys : List PyData} (hx : xs.all isKey = true) (nd : ys.Nodup) (p : xs.Perm ys) (hl : xs.length ≤ 4000) : ∃ ks ls, keysG (.list xs) = some ks ∧ keysG (.list ys) = some ls ∧ neSets ks ls = false := by
  have hy : ys.all isKey = true := by
    rw [List.all_eq_true] at hx ⊢
    exact fun y h => hx y (p.mem_iff.mpr h)
  obtain ⟨ks, a1, a2, a3, a4⟩ := keys_of xs hx
  obtain ⟨ls, b1, b2, b3, b4⟩ := keys_of ys hy
  have le := p.length_eq
  refine ⟨ks, ls, by simp [keysG, a1, a2, hl], by simp [keysG, b1, b2, ← le, hl], ?_⟩
  unfold neSets
  have d1 := (dd_len ks).2.mpr (a3.mpr (p.nodup_iff.mpr nd))
  have d2 := (dd_len ls).2.mpr (b3.mpr nd)
  rw [d1, d2, a2, b2, le]
  have : (ks.all fun k => hasK ls k) = true := by
    rw [List.all_eq_true]
    intro k hk
    rw [hasK_mem, b4, ← p.mem_iff, ← a4]
    exact hk
  rw [this]
  simp
theorem neSet_ap {fa fb : DE} {env : DL.Env} {S S1 S2 : Store} {x y : EV} {xs ys : List PyData} (h1 : fa env S = .ok x S1) (v1 : x.view S1 = some (.list xs)) (h2 : fb env S1 = .ok y S2) (v2 : y.view S2 = some (.list ys)) (hx : xs.all isKey = true) (nd : ys.Nodup) (p : xs.Perm ys) (hl : xs.length ≤ 4000) :
    neSetE fa fb env S = .ok (.d (.bool false)) S2 := by
  obtain ⟨ks, ls, e1, e2, e3⟩ := neSet_perm hx nd p hl
  unfold neSetE
  simp [h1, v1, h2, v2, e1, e2, e3]
end P

set_option Elab.async false
set_option linter.all false
set_option maxRecDepth 100000
set_option maxHeartbeats 4000000
/-! S4: the ends. -/
namespace P
open PySem PySem.Spec PyProof.Rows L2 DL U


theorem whD_len {ys : List PyData} (g : Gd ys) {n : PyData} (hn : isThing n = true) {w : List PyData} (h : whA ys n = some w) : w.length ≤ 1000 := by
  rw [where_way hn _ (Nat.le_refl _) g.wf g.nd] at h
  cases q : wayAll 0 ys n with
  | none => rw [q] at h; cases h
  | some u =>
    rw [q] at h
    cases h
    have := ((edit hn (fun row _ => row) _ (Nat.le_refl (cnAll ys)) g.wf g.nd).2 u q).2.1
    rw [crumbs_len u ys this]
    have := (way_len _ (Nat.le_refl (cnAll ys)) q).1
    have := g.meas.1
    omega
theorem okF_names : ∀ {fs : List Fr}, okF fs = true → (nmF fs).all isName = true
  | [], _ => rfl
  | (A, g, B) :: fs, h => by
    rw [okF] at h
    simp only [Bool.and_eq_true] at h
    have := okF_names h.2.2.2
    simp [nmF] at this ⊢
    exact ⟨h.2.1, this⟩
theorem nmF_sh {ys : List PyData} {n : PyData} {fs : List Fr} {A B : List PyData} {y : PyData} (h : At ys n fs A y B) (g : Gd ys) : SeqAt.shaped (.tuple (nmF fs)) = true := (ids_shaped (id_names (okF_names (h.row g).1))).2

theorem atI_last {xs : List PyData} {x : PyData} : atI (xs ++ [x]) (-1) = some x := by
  unfold atI ixN
  rw [if_neg (by omega), if_pos (by simp; omega)]
  have : ((-1 : Int) + ((xs ++ [x]).length : Nat)).toNat = xs.length := by simp; omega
  rw [this]
  simp
theorem neI {i j : Int} (h : i = j) : neG (.int i) (.int j) = some (.d (.bool false)) := by
  rw [neG_int, h]
  simp
/-- commands -/
theorem beh1_gd {ys : List PyData} (g : Gd ys) {s : Str} {n : PyData} {r : List PyData} (ha : (n :: r).all isName = true) (hnd : (n :: r).Nodup) (hk : kind s = (n :: r).length) : Gd (behC (.tuple (.str s :: n :: r)) ys) := (behC_gd (cmd_ok ha hnd hk) g).1
theorem arr1 {ys : List PyData} (g : Gd ys) {c : PyData} (h : cmdD c = true) (S : Store) : F_arranged [.d (.tuple [c]), .d (.tuple ys)] S = .ok (.d (.tuple (behC c ys))) S :=
  arranged_eq (cs := [c]) (fun x hx => by simp at hx; rw [hx]; exact h) (by simp) g S
theorem arr2 {ys : List PyData} (g : Gd ys) {c d : PyData} (h : cmdD c = true) (h2 : cmdD d = true) (S : Store) : F_arranged [.d (.tuple [c, d]), .d (.tuple ys)] S = .ok (.d (.tuple (behC d (behC c ys)))) S :=
  arranged_eq (cs := [c, d]) (fun x hx => by simp at hx; rcases hx with rfl | rfl <;> assumption) (by simp) g S
theorem cmd1 {s : Str} {n : PyData} (hn : isName n = true) (hk : kind s = 1) : cmdD (.tuple [.str s, n]) = true := cmd_ok (by simp [hn]) (by simp) (by simp [hk])
section
variable {ys : List PyData} {n : PyData} {fs : List Fr} {A B : List PyData} {y : PyData}
theorem At.one (h : At ys n fs A y B) (g : Gd ys) {s : Str} (hk : kind s = 1) : behC (.tuple [.str s, n]) ys = plug fs (aloneF s A y B) := by rw [h.beh g, alone_form hk]
end
theorem ends_right {ys : List PyData} (g : Gd ys) {n : PyData} (hn : isName n = true) (S : Store) : F__law_ends_right [.d (.tuple ys), .d n] S = .ok (.d (.bool true)) S := by
  show endF (g__law_ends_right [some (.d (.tuple ys)), some (.d n), none, none, none] S) = _
  have p0 := place_eq g hn S
  by_cases hin : n ∈ idsAll ys
  · obtain ⟨fs, A, y, B, h⟩ := g.at hin
    have kf : kind ("front" : Str) = 1 := by decide +kernel
    have kb : kind ("back" : Str) = 1 := by decide +kernel
    have ku : kind ("up" : Str) = 1 := by decide +kernel
    have kd : kind ("down" : Str) = 1 := by decide +kernel
    have cf := cmd1 hn kf
    have cb := cmd1 hn kb
    have cu := cmd1 hn ku
    have cd := cmd1 hn kd
    have a1 := arr1 g cf S
    have a2 := arr1 g cb S
    have gt := (behC_gd cf g).1
    have gl := (behC_gd cb g).1
    have et := h.one g kf
    have el := h.one g kb
    rw [front_form] at et
    rw [back_form] at el
    have ht : At (behC (.tuple [.str "front", n]) ys) n fs (A ++ B) y [] := ⟨et, h.cl⟩
    have hl : At (behC (.tuple [.str "back", n]) ys) n fs [] y (A ++ B) := ⟨el, h.cl⟩
    have q1 := place_eq gt hn S
    have q2 := place_eq gl hn S
    rw [h.wh g] at p0
    rw [ht.wh gt] at q1
    rw [hl.wh gl] at q2
    have a3 := arr1 gt cu S
    have a4 := arr1 gl cd S
    have e3 : behC (.tuple [.str "up", n]) (behC (.tuple [.str "front", n]) ys) = behC (.tuple [.str "front", n]) ys := by
      rw [ht.one gt ku, up_nil, ← et]
    have e4 : behC (.tuple [.str "down", n]) (behC (.tuple [.str "back", n]) ys) = behC (.tuple [.str "back", n]) ys := by
      rw [hl.one gl kd, down_nil, ← el]
    rw [e3] at a3
    rw [e4] at a4
    have a5 := arr2 g cu cd S
    have a6 := arr2 g cd cu S
    have s0 := g.sh
    have st := gt.sh
    have sl := gl.sh
    have n1 := neG_sh st st
    rw [eqv_self st] at n1
    have n2 := neG_sh sl sl
    rw [eqv_self sl] at n2
    have n3 := neG_sh s0 s0
    rw [eqv_self s0] at n3
    have n4 := eqG_sh s0 s0
    rw [eqv_self s0] at n4
    have up_down : (andE (neE (rdE 0) (rdE 3)) (neE (callE (F_arranged) (asL [tupE [tupE [cE (.str ("up" : Str)), rdE 1], tupE [cE (.str ("down" : Str)), rdE 1]], rdE 0])) (rdE 0))) [some (.d (.tuple ys)), some (.d n), some (.d (.tuple (nmF fs ++ [.int (A.length : Nat)]))), some (.d (.tuple (behC (.tuple [.str "front", n]) ys))), some (.d (.tuple (behC (.tuple [.str "back", n]) ys)))] S = .ok (.d (.bool false)) S := by
      cases B with
      | nil =>
        have : behC (.tuple [.str "front", n]) ys = ys := by
          rw [et, List.append_nil, ← h.eq]
        rw [this]
        simp [n3]
      | cons b B =>
        have gu := (behC_gd cu g).1
        have eu := h.one g ku
        rw [up_form] at eu
        have hu : At (behC (.tuple [.str "up", n]) ys) n fs (A ++ [b]) y B := ⟨by rw [eu]; simp, h.cl⟩
        have e5 : behC (.tuple [.str "down", n]) (behC (.tuple [.str "up", n]) ys) = ys := by
          rw [hu.one gu kd, down_form, ← h.eq]
        rw [e5] at a5
        have n5 := neG_sh s0 st
        cases q : PyData.eqv (.tuple ys) (.tuple (behC (.tuple [.str "front", n]) ys)) <;> simp [n5, q, a5, n3]
    have down_up : (orE (eqE (rdE 0) (rdE 4)) (eqE (callE (F_arranged) (asL [tupE [tupE [cE (.str ("down" : Str)), rdE 1], tupE [cE (.str ("up" : Str)), rdE 1]], rdE 0])) (rdE 0))) [some (.d (.tuple ys)), some (.d n), some (.d (.tuple (nmF fs ++ [.int (A.length : Nat)]))), some (.d (.tuple (behC (.tuple [.str "front", n]) ys))), some (.d (.tuple (behC (.tuple [.str "back", n]) ys)))] S = .ok (.d (.bool true)) S := by
      rcases List.eq_nil_or_concat A with rfl | ⟨A', a, rfl⟩
      · have : behC (.tuple [.str "back", n]) ys = ys := by
          rw [el, List.nil_append]
          exact h.eq.symm
        rw [this]
        simp [n4]
      · rw [List.concat_eq_append] at h el ⊢
        have gu := (behC_gd cd g).1
        have eu := h.one g kd
        rw [down_form] at eu
        have hu : At (behC (.tuple [.str "down", n]) ys) n fs A' y (a :: B) := ⟨eu, h.cl⟩
        have e5 : behC (.tuple [.str "up", n]) (behC (.tuple [.str "down", n]) ys) = ys := by
          rw [hu.one gu ku, up_form, h.eq]
          simp
        rw [e5] at a6
        have n5 := eqG_sh s0 sl
        cases q : PyData.eqv (.tuple ys) (.tuple (behC (.tuple [.str "back", n]) ys)) <;> simp [n5, q, a6, n4]
    have ad : addG (.tuple (nmF fs)) (.tuple [.int 0]) = _ := addG_tuple (by
      have := (whD_len g (name_thing hn) (h.wh g))
      simp at this ⊢
      omega)
    have sp0 := whD_sh g (name_thing hn)
    rw [h.wh g] at sp0
    have spt := whD_sh gl (name_thing hn)
    rw [hl.wh gl] at spt
    have spt' : SeqAt.shaped (.tuple (nmF fs ++ [.int 0])) = true := spt
    have w1 := neG_sh spt' spt'
    rw [eqv_self spt'] at w1
    have sn : SeqAt.shaped (.tuple (nmF fs)) = true := nmF_sh h g
    have w2 := neG_sh sn sn
    rw [eqv_self sn] at w2
    unfold g__law_ends_right
    simp only [whD] at p0 q1 q2
    have t1 : (orE (neE (callE F_arranged (asL [tupE [tupE [cE (PyData.str (Str.ofString "up")), rdE 1]], rdE 3])) (rdE 3)) (neE (callE F_arranged (asL [tupE [tupE [cE (PyData.str (Str.ofString "down")), rdE 1]], rdE 4])) (rdE 4))) [some (.d (.tuple ys)), some (.d n), some (.d (.tuple (nmF fs ++ [.int (A.length : Nat)]))), some (.d (.tuple (behC (.tuple [.str "front", n]) ys))), some (.d (.tuple (behC (.tuple [.str "back", n]) ys)))] S = .ok (.d (.bool false)) S := by
      simp [a3, a4, n1, n2]
    have t0 : (orE (neE (slE (callE (F_place) (asL [rdE 3, rdE 1])) none (some (negE (cE (.int 1))))) (slE (rdE 2) none (some (negE (cE (.int 1)))))) (neE (callE (F_place) (asL [rdE 4, rdE 1])) (addE (slE (rdE 2) none (some (negE (cE (.int 1))))) (tupE [cE (.int 0)])))) [some (.d (.tuple ys)), some (.d n), some (.d (.tuple (nmF fs ++ [.int (A.length : Nat)]))), some (.d (.tuple (behC (.tuple [.str "front", n]) ys))), some (.d (.tuple (behC (.tuple [.str "back", n]) ys)))] S = .ok (.d (.bool false)) S := by
      simp [q1, q2, cut_but_last, ad, w1, w2]
    have s1 : (asgF 2 (callE (F_place) (asL [rdE 0, rdE 1]))) [some (.d (.tuple ys)), some (.d n), none, none, none] S = .next [some (.d (.tuple ys)), some (.d n), some (.d (.tuple (nmF fs ++ [.int (A.length : Nat)]))), none, none] S := by simp [p0]
    have s2 : (ifS (isE (rdE 2)) (retS (cE (.bool true))) (nopS)) [some (.d (.tuple ys)), some (.d n), some (.d (.tuple (nmF fs ++ [.int (A.length : Nat)]))), none, none] S = .next [some (.d (.tuple ys)), some (.d n), some (.d (.tuple (nmF fs ++ [.int (A.length : Nat)]))), none, none] S := by simp [kIsN]
    have s3 : (parO 3 4 (callE (F_arranged) (asL [tupE [tupE [cE (.str ("front" : Str)), rdE 1]], rdE 0])) (callE (F_arranged) (asL [tupE [tupE [cE (.str ("back" : Str)), rdE 1]], rdE 0]))) [some (.d (.tuple ys)), some (.d n), some (.d (.tuple (nmF fs ++ [.int (A.length : Nat)]))), none, none] S = .next [some (.d (.tuple ys)), some (.d n), some (.d (.tuple (nmF fs ++ [.int (A.length : Nat)]))), some (.d (.tuple (behC (.tuple [.str "front", n]) ys))), some (.d (.tuple (behC (.tuple [.str "back", n]) ys)))] S := by simp [a1, a2, EV.kept]
    rw [seqS_ap, s1, RS.bind_next, seqS_ap, s2, RS.bind_next, seqS_ap, s3, RS.bind_next, seqS_ap, ifS_ap, t0, RE.bindBS_ok, if_neg (by decide), nopS_ap, RS.bind_next, seqS_ap, ifS_ap, t1, RE.bindBS_ok, if_neg (by decide), nopS_ap, RS.bind_next, seqS_ap, ifS_ap, up_down, RE.bindBS_ok, if_neg (by decide), nopS_ap, RS.bind_next, retS_ap, down_up, RE.bindS_ok]
    rfl
  · rw [(not_in g (name_thing hn) hin).1] at p0
    unfold g__law_ends_right
    simp [p0, whD, kIsN]
end P

set_option Elab.async false
set_option linter.all false
set_option maxRecDepth 100000
set_option maxHeartbeats 4000000
/-! S5: the sides. -/
namespace P
open PySem PySem.Spec PyProof.Rows L2 DL U


theorem eqv_names : ∀ {xs ys : List PyData}, xs.all isName = true → ys.all isName = true → PyData.eqvAll xs ys = true → xs = ys
  | [], [], _, _, _ => rfl
  | [], y :: ys, _, _, h => by rw [PyData.eqvAll] at h; cases h
  | x :: xs, [], _, _, h => by rw [PyData.eqvAll] at h; cases h
  | x :: xs, y :: ys, h1, h2, h => by
    rw [PyData.eqvAll, Bool.and_eq_true] at h
    simp only [List.all_cons, Bool.and_eq_true] at h1 h2
    rw [eqv_names h1.2 h2.2 h.2, (key_eqv (thing_key (name_thing h1.1)) (thing_key (name_thing h2.1))).mp h.1]
theorem same_plug : ∀ (fs fs2 : List Fr) (R R2 : List PyData), wfAll (plug fs R) = true → (idsAll (plug fs R)).Nodup → plug fs R = plug fs2 R2 → nmF fs = nmF fs2 → fs = fs2 ∧ R = R2
  | [], [], R, R2, _, _, h, _ => ⟨rfl, h⟩
  | [], f :: fs2, R, R2, _, _, _, h => by simp [nmF] at h
  | f :: fs, [], R, R2, _, _, _, h => by simp [nmF] at h
  | (A, g, B) :: fs, (A2, g2, B2) :: fs2, R, R2, w, nd, h, hn => by
    have hg : g = g2 := by simp [nmF] at hn; exact hn.1
    have hr : nmF fs = nmF fs2 := by simp [nmF] at hn ⊢; exact hn.2
    subst hg
    have w' := w
    have nd' := nd
    rw [h] at w' nd'
    rw [plug] at w nd w' nd'
    rw [plug, plug] at h
    obtain ⟨w1, w2, w3, w4, n1, n2, n3⟩ := plug_parts w nd
    obtain ⟨v1, v2, v3, v4, m1, m2, m3⟩ := plug_parts w' nd'
    have gt := name_thing w2
    have out : ∀ {A B zs : List PyData}, (idsAll (A ++ .tuple [g, .tuple zs] :: B)).Nodup → g ∉ idsAll A := fun {A B zs} nd hm => by
      rw [(all_app _ _).2.1, idsAll_cons, idsI_g] at nd
      exact (List.nodup_append.mp nd).2.2 g hm g (by simp) rfl
    have ge : PyData.eqv g g = true := (key_eqv (thing_key gt) (thing_key gt)).mpr rfl
    have s1 := spot_at (n := g) (A := A) (B := B) (x := .tuple [g, .tuple (plug fs R)]) (fun x hx => spot_none.mp (spot_out w1 gt (out nd)) x hx) ge
    have s2 := spot_at (n := g) (A := A2) (B := B2) (x := .tuple [g, .tuple (plug fs2 R2)]) (fun x hx => spot_none.mp (spot_out v1 gt (out nd')) x hx) ge
    rw [h, s2] at s1
    have hl : A.length = A2.length := by injection s1 with z; exact z.symm
    obtain ⟨e1, e2⟩ := List.append_inj h hl
    injection e2 with e3 e4
    have e5 : plug fs R = plug fs2 R2 := by
      injection e3 with z
      injection z with _ z2
      injection z2 with z3
      injection z3
    obtain ⟨e6, e7⟩ := same_plug fs fs2 R R2 w3 n2 e5 hr
    rw [e1, e4, e6, e7]
    exact ⟨rfl, rfl⟩
theorem cmdN {s : Str} {n : PyData} {r : List PyData} (ha : (n :: r).all isName = true) (hnd : (n :: r).Nodup) (hk : kind s = (n :: r).length) : cmdD (.tuple (.str s :: n :: r)) = true := cmd_ok ha hnd hk
/-- behind above and below -/
theorem beside_at {ys : List PyData} {n m : PyData} {fs : List Fr} {A B : List PyData} {y : PyData} (h : At ys n fs A y B) (g : Gd ys) (hn : isName n = true) (hm : isName m = true) (hne : n ≠ m) (hs : P.spot (A ++ B) m ≠ none) {s : Str} (hk : kind s = 2) :
    ∃ k : Nat, if s = "above" then (whA (behC (.tuple [.str s, n, m]) ys) n = some (nmF fs ++ [.int ((k + 1 : Nat) : Int)]) ∧ whA (behC (.tuple [.str s, n, m]) ys) m = some (nmF fs ++ [.int (k : Nat)]))
      else (whA (behC (.tuple [.str s, n, m]) ys) n = some (nmF fs ++ [.int (k : Nat)]) ∧ whA (behC (.tuple [.str s, n, m]) ys) m = some (nmF fs ++ [.int ((k + 1 : Nat) : Int)])) := by
  have hy : PyData.eqv (called y) m = false := by rw [h.cl]; exact name_ne hn hm hne
  have ha : (n :: [m]).all isName = true := by simp [hn, hm]
  have hnd : (n :: [m]).Nodup := by simp [hne]
  have g2 := beh1_gd g (s := s) ha hnd hk
  have e := h.beh g (s := s) (r := [m])
  rcases beside_form (s := s) (n := n) (tk := takenB ys [n, m]) (A := A) (B := B) hy with ⟨q, _⟩ | ⟨C, z, D, e1, e2, e3⟩
  · exact absurd q hs
  · have wAB : wfAll (A ++ B) = true := by
      have := h.wfs g
      rw [(all_app _ _).1, this.1, this.2.2]
      rfl
    have hz : called z = m := by
      obtain ⟨hl, he⟩ := spot_lt e2
      have : (A ++ B)[C.length]? = some z := by rw [e1]; simp
      obtain ⟨_, q⟩ := List.getElem?_eq_some_iff.mp this
      rw [q] at he
      have wz := (wf_mem wAB (show z ∈ A ++ B by rw [e1]; simp)).1
      exact (key_eqv (thing_key (called_key wz)) (thing_key (name_thing hm))).mp he
    refine ⟨C.length, ?_⟩
    rw [e3] at e
    by_cases q : s = "above"
    · rw [if_pos q] at e ⊢
      have k1 : At (behC (.tuple [.str s, n, m]) ys) n fs (C ++ [z]) y D := ⟨by rw [e]; simp, h.cl⟩
      have k2 : At (behC (.tuple [.str s, n, m]) ys) m fs C z (y :: D) := ⟨e, hz⟩
      rw [k1.wh g2, k2.wh g2]
      simp
    · rw [if_neg q] at e ⊢
      have k1 : At (behC (.tuple [.str s, n, m]) ys) n fs C y (z :: D) := ⟨e, h.cl⟩
      have k2 : At (behC (.tuple [.str s, n, m]) ys) m fs (C ++ [y]) z D := ⟨by rw [e]; simp, hz⟩
      rw [k1.wh g2, k2.wh g2]
      simp
/-- a group that is undone -/
theorem group_at {ys : List PyData} {n m t : PyData} {fs : List Fr} {A B : List PyData} {y : PyData} (h : At ys n fs A y B) (g : Gd ys) (hn : isName n = true) (hm : isName m = true) (ht : isName t = true) (hnd : (n :: [m, t]).Nodup) (hs : P.spot (A ++ B) m ≠ none) (hfree : t ∉ idsAll ys) :
    ∃ a b p : Nat, whA (behC (.tuple [.str "ungroup", t]) (behC (.tuple [.str "group", n, m, t]) ys)) n = some (nmF fs ++ [.int (a : Nat)]) ∧ whA (behC (.tuple [.str "ungroup", t]) (behC (.tuple [.str "group", n, m, t]) ys)) m = some (nmF fs ++ [.int (b : Nat)]) ∧
      whA ys m = some (nmF fs ++ [.int (p : Nat)]) ∧ (a : Int) - b = if p < A.length then 1 else -1 := by
  have hne : n ≠ m := fun z => (List.nodup_cons.mp hnd).1 (by simp [z])
  have hy : PyData.eqv (called y) m = false := by rw [h.cl]; exact name_ne hn hm hne
  have ha : (n :: [m, t]).all isName = true := by simp [hn, hm, ht]
  have kg : kind ("group" : Str) = 3 := by decide +kernel
  have ku : kind ("ungroup" : Str) = 1 := by decide +kernel
  have g2 := beh1_gd g (s := "group") ha hnd kg
  have e := h.beh g (s := "group") (r := [m, t])
  have tk : takenB ys [n, m, t] = false := by
    rw [← Bool.not_eq_true, taken_in g.wf g.nd (name_thing ht)]
    exact hfree
  rw [tk] at e
  have g3 := (behC_gd (cmd1 ht ku) g2).1
  have wA := h.wfs g
  have wz : ∀ z, z ∈ A ++ B → PyData.eqv (called z) m = true → called z = m := fun z hz he => by
    have wAB : wfAll (A ++ B) = true := by
      rw [(all_app _ _).1, wA.1, wA.2.2]
      rfl
    exact (key_eqv (thing_key (called_key (wf_mem wAB hz).1)) (thing_key (name_thing hm))).mp he
  rcases group_form (s := "group") (n := n) (g := t) (A := A) (B := B) hy with ⟨q, _⟩ | ⟨C, z, D, e1, e2, _, e3⟩ | ⟨C, z, D, e1, e2, _, e3⟩
  · exact absurd q hs
  · have hz := wz z (by rw [e1]; simp) e2
    rw [e3] at e
    have k : At (behC (.tuple [.str "group", n, m, t]) ys) t fs (C ++ D) (.tuple [t, .tuple [z, y]]) B := ⟨e, rfl⟩
    have e4 := k.one g2 ku
    rw [ungroup_g] at e4
    have k1 : At (behC (.tuple [.str "ungroup", t]) (behC (.tuple [.str "group", n, m, t]) ys)) n fs (C ++ D ++ [z]) y B := ⟨by rw [e4]; simp, h.cl⟩
    have k2 : At (behC (.tuple [.str "ungroup", t]) (behC (.tuple [.str "group", n, m, t]) ys)) m fs (C ++ D) z (y :: B) := ⟨by rw [e4]; simp, hz⟩
    have k3 : At ys m fs C z (D ++ y :: B) := ⟨by rw [h.eq, e1]; simp, hz⟩
    refine ⟨_, _, _, k1.wh g3, k2.wh g3, k3.wh g, ?_⟩
    rw [if_pos (by rw [e1]; simp)]
    simp
    try omega
  · have hz := wz z (by rw [e1]; simp) e2
    rw [e3] at e
    have k : At (behC (.tuple [.str "group", n, m, t]) ys) t fs (A ++ C) (.tuple [t, .tuple [y, z]]) D := ⟨e, rfl⟩
    have e4 := k.one g2 ku
    rw [ungroup_g] at e4
    have k1 : At (behC (.tuple [.str "ungroup", t]) (behC (.tuple [.str "group", n, m, t]) ys)) n fs (A ++ C) y (z :: D) := ⟨by rw [e4]; simp, h.cl⟩
    have k2 : At (behC (.tuple [.str "ungroup", t]) (behC (.tuple [.str "group", n, m, t]) ys)) m fs (A ++ C ++ [y]) z D := ⟨by rw [e4]; simp, hz⟩
    have k3 : At ys m fs (A ++ y :: C) z D := ⟨by rw [h.eq, e1]; simp, hz⟩
    refine ⟨_, _, _, k1.wh g3, k2.wh g3, k3.wh g, ?_⟩
    rw [if_neg (by simp; try omega)]
    simp
    try omega
theorem sides_right {ys : List PyData} (g : Gd ys) {n m t : PyData} (ha : (n :: [m, t]).all isName = true) (hnd : (n :: [m, t]).Nodup) (S : Store) : F__law_sides_right [.d (.tuple ys), .d n, .d m, .d t] S = .ok (.d (.bool true)) S := by
  have hn : isName n = true := by simp at ha; exact ha.1
  have hm : isName m = true := by simp at ha; exact ha.2.1
  have ht : isName t = true := by simp at ha; exact ha.2.2
  have hne : n ≠ m := fun z => (List.nodup_cons.mp hnd).1 (by simp [z])
  show endF (g__law_sides_right [some (.d (.tuple ys)), some (.d n), some (.d m), some (.d t), none, none, none] S) = _
  have p1 := place_eq g hn S
  have p2 := place_eq g hm S
  have p3 := place_eq g ht S
  by_cases in1 : n ∈ idsAll ys
  · obtain ⟨fs, A, y, B, h⟩ := g.at in1
    rw [h.wh g] at p1
    by_cases in2 : m ∈ idsAll ys
    · obtain ⟨fs2, A2, y2, B2, h2⟩ := g.at in2
      rw [h2.wh g] at p2
      have sq := neG_sh (nmF_sh h g) (nmF_sh h2 g)
      cases q : PyData.eqv (.tuple (nmF fs)) (.tuple (nmF fs2)) with
      | false =>
        rw [q] at sq
        unfold g__law_sides_right
        simp only [whD] at p1 p2
        simp [p1, p2, kIsN, cut_but_last, sq]
      | true =>
        rw [PyData.eqv] at q
        have en := eqv_names (okF_names (h.row g).1) (okF_names (h2.row g).1) q
        have w := g.wf
        have nd := g.nd
        have ee : plug fs (A ++ y :: B) = plug fs2 (A2 ++ y2 :: B2) := by rw [← h.eq, ← h2.eq]
        rw [h.eq] at w nd
        obtain ⟨e1, e2⟩ := same_plug fs fs2 _ _ w nd ee en
        subst e1
        have hy2 : y2 ∈ A ++ B := by
          have : y2 ∈ A ++ y :: B := by rw [e2]; simp
          rcases List.mem_append.mp this with z | z
          · exact List.mem_append_left _ z
          · rcases List.mem_cons.mp z with z | z
            · exact absurd (by rw [← h.cl, ← h2.cl, z]) hne
            · exact List.mem_append_right _ z
        have hs : P.spot (A ++ B) m ≠ none := fun z => by
          have := spot_none.mp z y2 hy2
          rw [h2.cl, (key_eqv (thing_key (name_thing hm)) (thing_key (name_thing hm))).mpr rfl] at this
          cases this
        have ka : kind ("above" : Str) = 2 := by decide +kernel
        have kb : kind ("below" : Str) = 2 := by decide +kernel
        have kg : kind ("group" : Str) = 3 := by decide +kernel
        have ku : kind ("ungroup" : Str) = 1 := by decide +kernel
        have ha2 : (n :: [m]).all isName = true := by simp [hn, hm]
        have hnd2 : (n :: [m]).Nodup := by simp [hne]
        have ca := cmdN ha2 hnd2 ka
        have cb := cmdN ha2 hnd2 kb
        have cg := cmdN ha hnd kg
        have cu := cmd1 ht ku
        have ga := (behC_gd ca g).1
        have gb := (behC_gd cb g).1
        have r1 := arr1 g ca S
        have r2 := arr1 g cb S
        have r3 := arr2 g cg cu S
        obtain ⟨k, x1⟩ := beside_at h g hn hm hne hs ka
        rw [if_pos rfl] at x1
        obtain ⟨k2, x2⟩ := beside_at h g hn hm hne hs kb
        rw [if_neg (by decide +kernel)] at x2
        have pa1 := place_eq ga hn S
        have pa2 := place_eq ga hm S
        rw [x1.1] at pa1
        rw [x1.2] at pa2
        have pb1 := place_eq gb hn S
        have pb2 := place_eq gb hm S
        rw [x2.1] at pb1
        rw [x2.2] at pb2
        have sn := neG_sh (nmF_sh h g) (nmF_sh h g)
        rw [eqv_self (nmF_sh h g)] at sn
        have i1 : neG (.int ((k + 1 : Nat) : Int)) (.int ((k : Int) + 1)) = _ := neI (by omega)
        have i2 : neG (.int ((k2 : Nat) : Int)) (.int (((k2 + 1 : Nat) : Int) - 1)) = _ := neI (by omega)
        have ad : addG (.int (k : Nat)) (.int 1) = some (.d (.int ((k : Int) + 1))) := addG_int
        by_cases in3 : t ∈ idsAll ys
        · obtain ⟨fs3, A3, y3, B3, h3⟩ := g.at in3
          rw [h3.wh g] at p3
          unfold g__law_sides_right
          simp only [whD] at p1 p2 p3 pa1 pa2 pb1 pb2
          simp [p1, p2, p3, kIsN, cut_but_last, sn, r1, pa1, pa2, atI_last, ad, i1, r2, pb1, pb2, i2]
        · obtain ⟨a, b, p, z1, z2, z3, z4⟩ := group_at h g hn hm ht hnd hs in3
          rw [(not_in g (name_thing ht) in3).1] at p3
          have gc := (behC_gd cu (behC_gd cg g).1).1
          have pc1 := place_eq gc hn S
          have pc2 := place_eq gc hm S
          rw [z1] at pc1
          rw [z2] at pc2
          have hp : p = A2.length := by
            rw [h2.wh g] at z3
            simp at z3
            omega
          unfold g__law_sides_right
          simp only [whD] at p1 p2 p3 pa1 pa2 pb1 pb2 pc1 pc2
          simp [p1, p2, p3, kIsN, cut_but_last, sn, r1, pa1, pa2, atI_last, ad, i1, r2, pb1, pb2, i2, r3, pc1, pc2]
          rw [hp] at z4
          by_cases q5 : A2.length < A.length
          · rw [if_pos q5] at z4 ⊢
            simp [z4]
          · rw [if_neg q5] at z4 ⊢
            simp [z4]
    · rw [(not_in g (name_thing hm) in2).1] at p2
      unfold g__law_sides_right
      simp only [whD] at p1 p2
      simp [p1, p2, kIsN]
  · rw [(not_in g (name_thing hn) in1).1] at p1
    cases q : whA ys m with
    | none =>
      rw [q] at p2
      unfold g__law_sides_right
      simp only [whD] at p1 p2
      simp [p1, p2, kIsN]
    | some v =>
      rw [q] at p2
      unfold g__law_sides_right
      simp only [whD] at p1 p2
      simp [p1, p2, kIsN]
end P

set_option Elab.async false
set_option linter.all false
set_option maxRecDepth 100000
set_option maxHeartbeats 4000000
/-! S6: law k12. -/
namespace P
open PySem PySem.Spec PyProof.Rows L2 DL U


def words8 : List (Str × Nat) := [("front", 1), ("back", 1), ("up", 1), ("down", 1), ("ungroup", 1), ("above", 2), ("below", 2), ("group", 3)]
def sizeT : List (PyData × PyData) := [(.str "above", .int 2), (.str "below", .int 2), (.str "group", .int 3)]
open Classical in
theorem word_facts {s : Str} {k : Nat} (h : (s, k) ∈ words8) : kind s = k ∧ 1 ≤ k ∧ k ≤ 3 ∧ (lookD sizeT s).getD (.int 1) = .int (k : Nat) ∧ inG true (.str s) (.tuple [.str "group", .str "ungroup"]) = some (dB (decide (s ≠ "group" ∧ s ≠ "ungroup"))) ∧ neG (.str s) (.str "group") = some (dB (decide (s ≠ "group"))) := by
  simp only [words8, List.mem_cons, Prod.mk.injEq, List.not_mem_nil, or_false] at h
  rcases h with ⟨rfl, rfl⟩ | ⟨rfl, rfl⟩ | ⟨rfl, rfl⟩ | ⟨rfl, rfl⟩ | ⟨rfl, rfl⟩ | ⟨rfl, rfl⟩ | ⟨rfl, rfl⟩ | ⟨rfl, rfl⟩
  · refine ⟨by decide +kernel, by omega, by omega, by kernel_rfl, ?_, ?_⟩
    · rw [decide_eq_true ⟨by decide +kernel, by decide +kernel⟩]; kernel_rfl
    · rw [decide_eq_true (by decide +kernel)]; kernel_rfl
  · refine ⟨by decide +kernel, by omega, by omega, by kernel_rfl, ?_, ?_⟩
    · rw [decide_eq_true ⟨by decide +kernel, by decide +kernel⟩]; kernel_rfl
    · rw [decide_eq_true (by decide +kernel)]; kernel_rfl
  · refine ⟨by decide +kernel, by omega, by omega, by kernel_rfl, ?_, ?_⟩
    · rw [decide_eq_true ⟨by decide +kernel, by decide +kernel⟩]; kernel_rfl
    · rw [decide_eq_true (by decide +kernel)]; kernel_rfl
  · refine ⟨by decide +kernel, by omega, by omega, by kernel_rfl, ?_, ?_⟩
    · rw [decide_eq_true ⟨by decide +kernel, by decide +kernel⟩]; kernel_rfl
    · rw [decide_eq_true (by decide +kernel)]; kernel_rfl
  · refine ⟨by decide +kernel, by omega, by omega, by kernel_rfl, ?_, ?_⟩
    · rw [decide_eq_false (fun z => z.2 rfl)]; kernel_rfl
    · rw [decide_eq_true (by decide +kernel)]; kernel_rfl
  · refine ⟨by decide +kernel, by omega, by omega, by kernel_rfl, ?_, ?_⟩
    · rw [decide_eq_true ⟨by decide +kernel, by decide +kernel⟩]; kernel_rfl
    · rw [decide_eq_true (by decide +kernel)]; kernel_rfl
  · refine ⟨by decide +kernel, by omega, by omega, by kernel_rfl, ?_, ?_⟩
    · rw [decide_eq_true ⟨by decide +kernel, by decide +kernel⟩]; kernel_rfl
    · rw [decide_eq_true (by decide +kernel)]; kernel_rfl
  · refine ⟨by decide +kernel, by omega, by omega, by kernel_rfl, ?_, ?_⟩
    · rw [decide_eq_false (fun z => z.1 rfl)]; kernel_rfl
    · rw [decide_eq_false (fun z => z rfl)]; kernel_rfl
theorem th_nodup {ys : List PyData} (g : Gd ys) : (thAll ys).Nodup := by
  obtain ⟨_, _, _, a4, _⟩ := wf_parts _ (Nat.le_refl (cnAll ys)) g.wf
  exact (List.nodup_append.mp (a4.nodup_iff.mp g.nd)).2.1
theorem less_all {xs ns : List PyData} (h : xs.all isThing = true) : (lessL xs ns).all isThing = true := by
  rw [List.all_eq_true] at h ⊢
  exact fun x hx => h x (List.mem_filter.mp hx).1
open Classical in
theorem obo_turn {l : Nat} {S : Store} {ys : List PyData} (h : Drw l S) (g : Gd ys) {s : Str} {k : Nat} (hs : (s, k) ∈ words8) (e5 e6 e7 e8 : Option EV) : ∃ a5 a6 a7 a8 S', Drw l S' ∧
    b__law_one_by_one_1 [some (.ref l), some (.d (.tuple ys)), some (.d (.list (thAll ys))), some (.d (.list (idsAll ys))), some (.d (.str s)), e5, e6, e7, e8] S = .next [some (.ref l), some (.d (.tuple ys)), some (.d (.list (thAll ys))), some (.d (.list (idsAll ys))), some (.d (.str s)), a5, a6, a7, a8] S' := by
  obtain ⟨f1, f2, f3, f4, f5, f6⟩ := word_facts hs
  obtain ⟨x, y, z, S', hp, e3, h'⟩ := three h
  obtain ⟨pn, pd⟩ := perms_names hp
  have e3' : F__law_three [.ref l] S = _ := e3
  generalize hr : ([.str y, .str z] : List PyData).take (k - 1) = r
  have hcut : DL.cutD [.str x, .str y, .str z] none (some (k : Int)) = .str x :: r := by
    rw [cut_to (by simp; omega), ← hr]
    match k, f2 with
    | k + 1, _ => simp
  have hsub : ∀ w, w ∈ r → w ∈ ([.str y, .str z] : List PyData) := fun w hw => by
    rw [← hr] at hw
    exact List.mem_of_mem_take hw
  have ha : (PyData.str x :: r).all isName = true := by
    rw [List.all_eq_true] at pn ⊢
    intro w hw
    rcases List.mem_cons.mp hw with rfl | hw
    · exact pn _ (by simp)
    · exact pn _ (List.mem_cons_of_mem _ (hsub w hw))
  have hnd : (PyData.str x :: r).Nodup := by
    have : (PyData.str x :: r).Sublist [.str x, .str y, .str z] := by
      rw [← hr]
      exact (List.take_sublist _ _).cons_cons _
    exact pd.sublist this
  have hk : kind s = (PyData.str x :: r).length := by
    rw [f1, List.length_cons, ← hr, List.length_take]
    simp
    omega
  have hn : isName (.str x) = true := List.all_eq_true.mp ha _ (by simp)
  have cm := cmd_ok ha hnd hk
  have g2 := (behC_gd cm g).1
  have pth := (behC_gd cm g).2
  have ar := arr1 g cm S'
  obtain ⟨w1, w2⟩ := one_word g ha hnd hk
  generalize hf : behC (.tuple (.str s :: .str x :: r)) ys = found at g2 pth ar w1 w2
  have dr := drawing_eq (.tuple found) S' (by have := g2.meas.1; simp; omega)
  rw [g2.good] at dr
  have lt := g2.lthings S'
  have li := g2.law_ids S'
  have pa := painted_eq g2 S'
  obtain ⟨ev, v1, v2⟩ := lwithin_eq hn S' 40 ys g.wf (by have := g.meas.1; omega) (by have := g.meas.2.2.2; omega) (by omega)
  have ad : addG (.tuple [.str s]) (.tuple (.str x :: r)) = _ := addG_tuple (by
    have : r.length ≤ 2 := by rw [← hr, List.length_take]; simp; omega
    simp
    omega)
  have k1 := key_things g2.th_things
  have k2 := key_things g2.ids.2
  have len1 := g2.th
  have len2 := g2.ids.1
  refine ⟨some (.d (.tuple [.str x, .str y, .str z])), some (.d (.int (k : Nat))), some (.d (.tuple found)), some (.d (wiD (wiL ys (.str x)))), S', h', ?_⟩
  have t1 : (neSetE (callE (F__law_things 40) (asL [rdE 7])) (rdE 2)) [some (.ref l), some (.d (.tuple ys)), some (.d (.list (thAll ys))), some (.d (.list (idsAll ys))), some (.d (.str s)), some (.d (.tuple [.str x, .str y, .str z])), some (.d (.int (k : Nat))), some (.d (.tuple found)), e8] S' = .ok (.d (.bool false)) S' :=
    neSet_ap (S1 := S') (x := .d (.list (thAll found))) (y := .d (.list (thAll ys))) (by simp [lt]) rfl (by simp) rfl k1 (th_nodup g) pth (by omega)
  have t2 : (andE (ninE (rdE 4) (tupE [cE (.str ("group" : Str)), cE (.str ("ungroup" : Str))])) (neSetE (callE (F__law_ids 40) (asL [rdE 7])) (rdE 3))) [some (.ref l), some (.d (.tuple ys)), some (.d (.list (thAll ys))), some (.d (.list (idsAll ys))), some (.d (.str s)), some (.d (.tuple [.str x, .str y, .str z])), some (.d (.int (k : Nat))), some (.d (.tuple found)), e8] S' = .ok (.d (.bool false)) S' := by
    by_cases q : s ≠ "group" ∧ s ≠ "ungroup"
    · rw [decide_eq_true q] at f5
      have t3 : (neSetE (callE (F__law_ids 40) (asL [rdE 7])) (rdE 3)) [some (.ref l), some (.d (.tuple ys)), some (.d (.list (thAll ys))), some (.d (.list (idsAll ys))), some (.d (.str s)), some (.d (.tuple [.str x, .str y, .str z])), some (.d (.int (k : Nat))), some (.d (.tuple found)), e8] S' = .ok (.d (.bool false)) S' :=
        neSet_ap (S1 := S') (x := .own (idsAll found)) (y := .d (.list (idsAll ys))) (by simp [li]) rfl (by simp) rfl k2 g.nd (w1 q.1 q.2) (by omega)
      simp [f5, t3]
    · rw [decide_eq_false q] at f5
      simp [f5]
  unfold b__law_one_by_one_1
  have f4' : (lookD [(.str "above", .int 2), (.str "below", .int 2), (.str "group", .int 3)] s).getD (.int 1) = .int (k : Nat) := f4
  simp [e3', f4', hcut, ad, ar, dr]
  rw [t1]
  simp at t2
  simp
  rw [t2]
  simp [v1, v2]
  have sf := g2.sh
  have sy := g.sh
  rcases w2 with ⟨n1, n2⟩ | ⟨w, n1, n2, n3, n4⟩
  · rw [n1, n2]
    have n5 := neG_sh sy sy
    rw [eqv_self sy] at n5
    simp [wiD, kIsN, n5]
  · rw [n1]
    by_cases q : s = "group"
    · subst q
      rw [decide_eq_false (fun z => z rfl)] at f6
      simp [wiD, kIsN, f6]
    · rw [decide_eq_true q] at f6
      have c1 := lwithout_eq g2.th_things n2 (by omega) S'
      have c2 := lwithout_eq g.th_things n2 (by have := g.th; omega) S'
      rw [n4 q] at c1
      have sl := lids_shaped (less_all (ns := w) g.th_things)
      have n5 := neG_sh sl sl
      rw [eqv_self sl] at n5
      simp [wiD, kIsN, f6, pa, c1, c2, n5]
theorem one_by_one {l : Nat} {S : Store} {ys : List PyData} (h : Drw l S) (g : Gd ys) : ∃ S', Drw l S' ∧ F__law_one_by_one [.ref l, .d (.tuple ys)] S = .ok (.d (.bool true)) S' := by
  have pa := painted_eq g S
  have li := g.law_ids S
  have loop : ∀ (ws : List (Str × Nat)), (∀ w, w ∈ ws → w ∈ words8) → ∀ (e4 e5 e6 e7 e8 : Option EV) (S : Store), Drw l S → ∃ a4 a5 a6 a7 a8 S', Drw l S' ∧
      forD (tgN 4) b__law_one_by_one_1 (ws.map fun w => .str w.1) [some (.ref l), some (.d (.tuple ys)), some (.d (.list (thAll ys))), some (.d (.list (idsAll ys))), e4, e5, e6, e7, e8] S = .next [some (.ref l), some (.d (.tuple ys)), some (.d (.list (thAll ys))), some (.d (.list (idsAll ys))), a4, a5, a6, a7, a8] S' := fun ws => by
    induction ws with
    | nil => exact fun _ e4 e5 e6 e7 e8 S h => ⟨_, _, _, _, _, S, h, rfl⟩
    | cons w ws ih =>
      intro hw e4 e5 e6 e7 e8 S h
      obtain ⟨a5, a6, a7, a8, S1, h1, e1⟩ := obo_turn h g (s := w.1) (k := w.2) (hw w (by simp)) e5 e6 e7 e8
      obtain ⟨b4, b5, b6, b7, b8, S2, h2, e2⟩ := ih (fun v hv => hw v (List.mem_cons_of_mem _ hv)) (some (.d (.str w.1))) a5 a6 a7 a8 S1 h1
      refine ⟨b4, b5, b6, b7, b8, S2, h2, ?_⟩
      rw [List.map_cons]
      unfold forD
      simp only [tgN_ap, List.set_cons_succ, List.set_cons_zero, e1]
      exact e2
  obtain ⟨a4, a5, a6, a7, a8, S', h', e⟩ := loop words8 (fun w h => h) none none none none none S h
  have e' : forD (tgN 4) b__law_one_by_one_1 [.str "front", .str "back", .str "up", .str "down", .str "ungroup", .str "above", .str "below", .str "group"] [some (.ref l), some (.d (.tuple ys)), some (.d (.list (thAll ys))), some (.d (.list (idsAll ys))), none, none, none, none, none] S = _ := e
  refine ⟨S', h', ?_⟩
  show endF (g__law_one_by_one [some (.ref l), some (.d (.tuple ys)), none, none, none, none, none, none, none] S) = _
  unfold g__law_one_by_one
  simp [pa, li, EV.kept, Env.frz, e']
theorem k12_cell (ns : List Int) (k : Nat) (hk : k ≤ 1000) (e2 e3 e4 e5 e6 : Option EV) (S : Store) : (b_law_k12_1 [some (.scr ns), some (.d (.int (k : Nat))), e2, e3, e4, e5, e6] S).isNext fun e _ => ∃ a1 a2 a3 a4 a5 a6, e = [some (.scr ns), a1, a2, a3, a4, a5, a6] := by
  obtain ⟨a, b, q1, q2, q3, q4⟩ := source ns k hk S
  have h0 := drw_new (S := S) q2 q3 q4
  generalize hS0 : (S ++ [Cell.lst [.int a, .int b]] : Store) = S0 at h0
  generalize hl : S.length = l at h0
  obtain ⟨ys, S1, dr, d2, h1⟩ := drawing h0 (most := 10) (by omega) false
  have g := dr.gd (by omega)
  have d2' : F__law_drawing [.ref l, .d (.int 10), .d (.bool false)] S0 = _ := d2
  obtain ⟨x, y, z, S2, hp, e3', h2⟩ := three h1
  obtain ⟨pn, pd⟩ := perms_names hp
  have e3'' : F__law_three [.ref l] S1 = _ := e3'
  obtain ⟨S3, h3, ob⟩ := one_by_one h2 g
  have er := ends_right g (n := .str x) (List.all_eq_true.mp pn _ (by simp)) S3
  have sr := sides_right g (n := .str x) (m := .str y) (t := .str z) pn pd S3
  unfold b_law_k12_1
  simp [q1, hS0, hl, d2', e3'', tgL, ob, er, sr, RS.isNext]
theorem k12_loop (ns : List Int) : ∀ (xs : List PyData) (a1 a2 a3 a4 a5 a6 : Option EV) (S : Store), (∀ x, x ∈ xs → ∃ k : Nat, x = .int (k : Nat) ∧ k ≤ 1000) → ∃ b1 b2 b3 b4 b5 b6 S', forD (tgN 1) b_law_k12_1 xs [some (.scr ns), a1, a2, a3, a4, a5, a6] S = .next [some (.scr ns), b1, b2, b3, b4, b5, b6] S'
  | [], a1, a2, a3, a4, a5, a6, S, _ => ⟨_, _, _, _, _, _, S, rfl⟩
  | x :: xs, a1, a2, a3, a4, a5, a6, S, h => by
    obtain ⟨k, rfl, hk⟩ := h x List.mem_cons_self
    obtain ⟨_, S1, e, c1, c2, c3, c4, c5, c6, rfl⟩ := (k12_cell ns k hk a2 a3 a4 a5 a6 S).elim
    obtain ⟨b1, b2, b3, b4, b5, b6, S', e2⟩ := k12_loop ns xs c1 c2 c3 c4 c5 c6 S1 fun x hx => h x (List.mem_cons_of_mem _ hx)
    refine ⟨b1, b2, b3, b4, b5, b6, S', ?_⟩
    unfold forD
    simp only [tgN_ap, List.set_cons_succ, List.set_cons_zero, e]
    exact e2
theorem k12 (ns : List Int) (hl : ns.length ≤ 63) : ∃ S', F_law_k12 [.scr ns] [] = .ok (.d (.bool true)) S' := by
  obtain ⟨m, hm1, hm2⟩ := count_ok 6 20 ns.length
  obtain ⟨b1, b2, b3, b4, b5, b6, S', e⟩ := k12_loop ns (rngL 0 m) none none none none none none [] (rng_ok (by omega))
  refine ⟨S', ?_⟩
  show endF (g_law_k12 [some (.scr ns), none, none, none, none, none, none] []) = _
  unfold g_law_k12
  have s2 : (forS (rng1 (maxE (cE (.int 6)) (minE (cE (.int 20)) (lenE (rdE 0))))) (tgN 1) (b_law_k12_1)) [some (.scr ns), none, none, none, none, none, none] [] = .next [some (.scr ns), b1, b2, b3, b4, b5, b6] S' := by
    have : (maxE (cE (.int 6)) (minE (cE (.int 20)) (lenE (rdE 0)))) [some (.scr ns), none, none, none, none, none, none] [] = .ok (.d (.int (m : Nat))) [] := by
      rw [← hm2]
      simp
    rw [forS_ap, rng1_ap, this, RE.bind_ok, rngK_nat (by omega), RE.bindS_ok]
    exact e
  rw [seqS_ap, s2, RS.bind_next]
  simp
end P

set_option Elab.async false
set_option linter.all false
set_option maxRecDepth 100000
set_option maxHeartbeats 0
namespace K12
open PySem PySem.Spec PyProof.Rows L2 DL U
def top (i : Nat) : Stmt := PySem.Challenge.pw_toparranged_k12_whole_what_commands_leav.main.body.getD i (.Pass ⟨0, 0, 0, 0⟩)
abbrev s_is_name : Stmt := top 12
abbrev s_is_thing : Stmt := top 13
abbrev s_is_group : Stmt := top 14
abbrev s_all_things : Stmt := top 15
abbrev s_group_names : Stmt := top 16
abbrev s_are_items : Stmt := top 17
abbrev s_is_right_drawing : Stmt := top 18
abbrev s_is_right_command : Stmt := top 19
abbrev s_is_right_script : Stmt := top 20
abbrev s_name_of : Stmt := top 21
abbrev s_way_to : Stmt := top 22
abbrev s_row_at : Stmt := top 23
abbrev s_with_row : Stmt := top 24
abbrev s_need_drawing : Stmt := top 25
abbrev s_need_script : Stmt := top 26
abbrev s_need_name : Stmt := top 27
abbrev s_is_drawing : Stmt := top 28
abbrev s_painted : Stmt := top 29
abbrev s_place : Stmt := top 30
abbrev s_index_in : Stmt := top 32
abbrev s_moved : Stmt := top 33
abbrev s_alone_in : Stmt := top 34
abbrev s_beside_in : Stmt := top 35
abbrev s_grouped_in : Stmt := top 36
abbrev s_behind : Stmt := top 37
abbrev s_drawing_behind : Stmt := top 38
abbrev s_arranged : Stmt := top 39
abbrev s__law_source : Stmt := top 41
abbrev s__law_pick : Stmt := top 42
abbrev s__law_chosen : Stmt := top 43
abbrev s__law_wide : Stmt := top 44
abbrev s__law_whole : Stmt := top 45
abbrev s__law_is_name : Stmt := top 46
abbrev s__law_ids : Stmt := top 47
abbrev s__law_things : Stmt := top 48
abbrev s__law_three : Stmt := top 49
abbrev s__law_mixed : Stmt := top 50
abbrev s__law_drawing : Stmt := top 51
abbrev s__law_without : Stmt := top 52
abbrev s__law_within : Stmt := top 53
abbrev s__law_one_by_one : Stmt := top 54
abbrev s__law_ends_right : Stmt := top 55
abbrev s__law_sides_right : Stmt := top 56
abbrev s_law : Stmt := top 57
def excs : List Str := [("InvalidDrawing" : Str), ("InvalidScript" : Str), ("InvalidName" : Str)]
structure Names (K : PySem.W.Frag) (mg : Str → Option Value) (ca : Str → Addr) where
  n_is_name : Own K mg ("is_name" : Str) s_is_name
  n_is_thing : Own K mg ("is_thing" : Str) s_is_thing
  n_is_group : Own K mg ("is_group" : Str) s_is_group
  n_all_things : Own K mg ("all_things" : Str) s_all_things
  n_group_names : Own K mg ("group_names" : Str) s_group_names
  n_are_items : Own K mg ("are_items" : Str) s_are_items
  n_is_right_drawing : Own K mg ("is_right_drawing" : Str) s_is_right_drawing
  n_is_right_command : Own K mg ("is_right_command" : Str) s_is_right_command
  n_is_right_script : Own K mg ("is_right_script" : Str) s_is_right_script
  n_name_of : Own K mg ("name_of" : Str) s_name_of
  n_way_to : Own K mg ("way_to" : Str) s_way_to
  n_row_at : Own K mg ("row_at" : Str) s_row_at
  n_with_row : Own K mg ("with_row" : Str) s_with_row
  n_need_drawing : Own K mg ("need_drawing" : Str) s_need_drawing
  n_need_script : Own K mg ("need_script" : Str) s_need_script
  n_need_name : Own K mg ("need_name" : Str) s_need_name
  n_is_drawing : Own K mg ("is_drawing" : Str) s_is_drawing
  n_painted : Own K mg ("painted" : Str) s_painted
  n_place : Own K mg ("place" : Str) s_place
  n_index_in : Own K mg ("index_in" : Str) s_index_in
  n_moved : Own K mg ("moved" : Str) s_moved
  n_alone_in : Own K mg ("alone_in" : Str) s_alone_in
  n_beside_in : Own K mg ("beside_in" : Str) s_beside_in
  n_grouped_in : Own K mg ("grouped_in" : Str) s_grouped_in
  n_behind : Own K mg ("behind" : Str) s_behind
  n_drawing_behind : Own K mg ("drawing_behind" : Str) s_drawing_behind
  n_arranged : Own K mg ("arranged" : Str) s_arranged
  n__law_source : Own K mg ("_law_source" : Str) s__law_source
  n__law_pick : Own K mg ("_law_pick" : Str) s__law_pick
  n__law_chosen : Own K mg ("_law_chosen" : Str) s__law_chosen
  n__law_wide : Own K mg ("_law_wide" : Str) s__law_wide
  n__law_whole : Own K mg ("_law_whole" : Str) s__law_whole
  n__law_is_name : Own K mg ("_law_is_name" : Str) s__law_is_name
  n__law_ids : Own K mg ("_law_ids" : Str) s__law_ids
  n__law_things : Own K mg ("_law_things" : Str) s__law_things
  n__law_three : Own K mg ("_law_three" : Str) s__law_three
  n__law_mixed : Own K mg ("_law_mixed" : Str) s__law_mixed
  n__law_drawing : Own K mg ("_law_drawing" : Str) s__law_drawing
  n__law_without : Own K mg ("_law_without" : Str) s__law_without
  n__law_within : Own K mg ("_law_within" : Str) s__law_within
  n__law_one_by_one : Own K mg ("_law_one_by_one" : Str) s__law_one_by_one
  n__law_ends_right : Own K mg ("_law_ends_right" : Str) s__law_ends_right
  n__law_sides_right : Own K mg ("_law_sides_right" : Str) s__law_sides_right
  n_law : Own K mg ("law" : Str) s_law
  c_NAMES : Cst K mg ("NAMES" : Str) (.tuple [(.str ("a" : Str)), (.str ("b" : Str)), (.str ("c" : Str))])
  c_MOST_NUMBER : Cst K mg ("MOST_NUMBER" : Str) (.int 99)
  c_MOST_THINGS : Cst K mg ("MOST_THINGS" : Str) (.int 40)
  c_ALONE : Cst K mg ("ALONE" : Str) (.tuple [(.str ("front" : Str)), (.str ("back" : Str)), (.str ("up" : Str)), (.str ("down" : Str)), (.str ("ungroup" : Str))])
  c_BESIDE : Cst K mg ("BESIDE" : Str) (.tuple [(.str ("above" : Str)), (.str ("below" : Str))])
  c_MOST_COMMANDS : Cst K mg ("MOST_COMMANDS" : Str) (.int 4)
  x_InvalidDrawing : ExcN K mg ca ("InvalidDrawing" : Str)
  x_InvalidScript : ExcN K mg ca ("InvalidScript" : Str)
  x_InvalidName : ExcN K mg ca ("InvalidName" : Str)
  exm : ∀ x ∈ excs, ∀ y ∈ excs, PySem.W.exmOne K (.ref (ca x)) (.ref (ca y)) = some (exSub x y)
  b_all : mg ("all" : Str) = none
  b_bool : mg ("bool" : Str) = none
  b_enumerate : mg ("enumerate" : Str) = none
  b_int : mg ("int" : Str) = none
  b_isinstance : mg ("isinstance" : Str) = none
  b_len : mg ("len" : Str) = none
  b_list : mg ("list" : Str) = none
  b_max : mg ("max" : Str) = none
  b_min : mg ("min" : Str) = none
  b_range : mg ("range" : Str) = none
  b_set : mg ("set" : Str) = none
  b_str : mg ("str" : Str) = none
  b_tuple : mg ("tuple" : Str) = none
section
variable {K : PySem.W.Frag} {mg : Str → Option Value} {ca : Str → Addr}
theorem Names.bn_is_name (n : Names K mg ca) : Binds K n.n_is_name.fd [("value" : Str)] [] := n.n_is_name.fn.bindsN fun _ _ _ _ _ _ us hl => match us, hl with | [_], _ => rfl
theorem Names.bn_is_thing (n : Names K mg ca) : Binds K n.n_is_thing.fd [("value" : Str)] [] := n.n_is_thing.fn.bindsN fun _ _ _ _ _ _ us hl => match us, hl with | [_], _ => rfl
theorem Names.bn_is_group (n : Names K mg ca) : Binds K n.n_is_group.fd [("value" : Str)] [] := n.n_is_group.fn.bindsN fun _ _ _ _ _ _ us hl => match us, hl with | [_], _ => rfl
theorem Names.bn_all_things (n : Names K mg ca) : Binds K n.n_all_things.fd [("items" : Str)] [] := n.n_all_things.fn.bindsN fun _ _ _ _ _ _ us hl => match us, hl with | [_], _ => rfl
theorem Names.bn_group_names (n : Names K mg ca) : Binds K n.n_group_names.fd [("items" : Str)] [] := n.n_group_names.fn.bindsN fun _ _ _ _ _ _ us hl => match us, hl with | [_], _ => rfl
theorem Names.bn_are_items (n : Names K mg ca) : Binds K n.n_are_items.fd [("value" : Str), ("deep" : Str)] [] := n.n_are_items.fn.bindsN fun _ _ _ _ _ _ us hl => match us, hl with | [_, _], _ => rfl
theorem Names.bn_is_right_drawing (n : Names K mg ca) : Binds K n.n_is_right_drawing.fd [("value" : Str)] [] := n.n_is_right_drawing.fn.bindsN fun _ _ _ _ _ _ us hl => match us, hl with | [_], _ => rfl
theorem Names.bn_is_right_command (n : Names K mg ca) : Binds K n.n_is_right_command.fd [("value" : Str)] [] := n.n_is_right_command.fn.bindsN fun _ _ _ _ _ _ us hl => match us, hl with | [_], _ => rfl
theorem Names.bn_is_right_script (n : Names K mg ca) : Binds K n.n_is_right_script.fd [("value" : Str)] [] := n.n_is_right_script.fn.bindsN fun _ _ _ _ _ _ us hl => match us, hl with | [_], _ => rfl
theorem Names.bn_name_of (n : Names K mg ca) : Binds K n.n_name_of.fd [("item" : Str)] [] := n.n_name_of.fn.bindsN fun _ _ _ _ _ _ us hl => match us, hl with | [_], _ => rfl
theorem Names.bn_way_to (n : Names K mg ca) : Binds K n.n_way_to.fd [("items" : Str), ("name" : Str)] [] := n.n_way_to.fn.bindsN fun _ _ _ _ _ _ us hl => match us, hl with | [_, _], _ => rfl
theorem Names.bn_row_at (n : Names K mg ca) : Binds K n.n_row_at.fd [("items" : Str), ("way" : Str)] [] := n.n_row_at.fn.bindsN fun _ _ _ _ _ _ us hl => match us, hl with | [_, _], _ => rfl
theorem Names.bn_with_row (n : Names K mg ca) : Binds K n.n_with_row.fd [("items" : Str), ("way" : Str), ("row" : Str)] [] := n.n_with_row.fn.bindsN fun _ _ _ _ _ _ us hl => match us, hl with | [_, _, _], _ => rfl
theorem Names.bn_need_drawing (n : Names K mg ca) : Binds K n.n_need_drawing.fd [("value" : Str)] [] := n.n_need_drawing.fn.bindsN fun _ _ _ _ _ _ us hl => match us, hl with | [_], _ => rfl
theorem Names.bn_need_script (n : Names K mg ca) : Binds K n.n_need_script.fd [("value" : Str)] [] := n.n_need_script.fn.bindsN fun _ _ _ _ _ _ us hl => match us, hl with | [_], _ => rfl
theorem Names.bn_need_name (n : Names K mg ca) : Binds K n.n_need_name.fd [("value" : Str)] [] := n.n_need_name.fn.bindsN fun _ _ _ _ _ _ us hl => match us, hl with | [_], _ => rfl
theorem Names.bn_is_drawing (n : Names K mg ca) : Binds K n.n_is_drawing.fd [("value" : Str)] [] := n.n_is_drawing.fn.bindsN fun _ _ _ _ _ _ us hl => match us, hl with | [_], _ => rfl
theorem Names.bn_painted (n : Names K mg ca) : Binds K n.n_painted.fd [("drawing" : Str)] [] := n.n_painted.fn.bindsN fun _ _ _ _ _ _ us hl => match us, hl with | [_], _ => rfl
theorem Names.bn_place (n : Names K mg ca) : Binds K n.n_place.fd [("drawing" : Str), ("name" : Str)] [] := n.n_place.fn.bindsN fun _ _ _ _ _ _ us hl => match us, hl with | [_, _], _ => rfl
theorem Names.bn_index_in (n : Names K mg ca) : Binds K n.n_index_in.fd [("row" : Str), ("name" : Str)] [] := n.n_index_in.fn.bindsN fun _ _ _ _ _ _ us hl => match us, hl with | [_, _], _ => rfl
theorem Names.bn_moved (n : Names K mg ca) : Binds K n.n_moved.fd [("row" : Str), ("at" : Str), ("to" : Str)] [] := n.n_moved.fn.bindsN fun _ _ _ _ _ _ us hl => match us, hl with | [_, _, _], _ => rfl
theorem Names.bn_alone_in (n : Names K mg ca) : Binds K n.n_alone_in.fd [("word" : Str), ("row" : Str), ("at" : Str)] [] := n.n_alone_in.fn.bindsN fun _ _ _ _ _ _ us hl => match us, hl with | [_, _, _], _ => rfl
theorem Names.bn_beside_in (n : Names K mg ca) : Binds K n.n_beside_in.fd [("word" : Str), ("row" : Str), ("at" : Str), ("other" : Str)] [] := n.n_beside_in.fn.bindsN fun _ _ _ _ _ _ us hl => match us, hl with | [_, _, _, _], _ => rfl
theorem Names.bn_grouped_in (n : Names K mg ca) : Binds K n.n_grouped_in.fd [("row" : Str), ("at" : Str), ("other" : Str), ("name" : Str)] [] := n.n_grouped_in.fn.bindsN fun _ _ _ _ _ _ us hl => match us, hl with | [_, _, _, _], _ => rfl
theorem Names.bn_behind (n : Names K mg ca) : Binds K n.n_behind.fd [("command" : Str), ("drawing" : Str)] [] := n.n_behind.fn.bindsN fun _ _ _ _ _ _ us hl => match us, hl with | [_, _], _ => rfl
theorem Names.bn_drawing_behind (n : Names K mg ca) : Binds K n.n_drawing_behind.fd [("script" : Str), ("drawing" : Str)] [] := n.n_drawing_behind.fn.bindsN fun _ _ _ _ _ _ us hl => match us, hl with | [_, _], _ => rfl
theorem Names.bn_arranged (n : Names K mg ca) : Binds K n.n_arranged.fd [("script" : Str), ("drawing" : Str)] [] := n.n_arranged.fn.bindsN fun _ _ _ _ _ _ us hl => match us, hl with | [_, _], _ => rfl
theorem Names.bn__law_source (n : Names K mg ca) : Binds K n.n__law_source.fd [("script" : Str), ("k" : Str)] [] := n.n__law_source.fn.bindsN fun _ _ _ _ _ _ us hl => match us, hl with | [_, _], _ => rfl
theorem Names.bn__law_pick (n : Names K mg ca) : Binds K n.n__law_pick.fd [("source" : Str), ("many" : Str)] [] := n.n__law_pick.fn.bindsN fun _ _ _ _ _ _ us hl => match us, hl with | [_, _], _ => rfl
theorem Names.bn__law_chosen (n : Names K mg ca) : Binds K n.n__law_chosen.fd [("source" : Str), ("things" : Str)] [] := n.n__law_chosen.fn.bindsN fun _ _ _ _ _ _ us hl => match us, hl with | [_, _], _ => rfl
theorem Names.bn__law_wide (n : Names K mg ca) : Binds K n.n__law_wide.fd [("value" : Str), ("low" : Str), ("high" : Str)] [] := n.n__law_wide.fn.bindsN fun _ _ _ _ _ _ us hl => match us, hl with | [_, _, _], _ => rfl
theorem Names.bn__law_whole (n : Names K mg ca) : Binds K n.n__law_whole.fd [("value" : Str), ("low" : Str), ("high" : Str)] [] := n.n__law_whole.fn.bindsN fun _ _ _ _ _ _ us hl => match us, hl with | [_, _, _], _ => rfl
theorem Names.bn__law_is_name (n : Names K mg ca) : Binds K n.n__law_is_name.fd [("value" : Str)] [] := n.n__law_is_name.fn.bindsN fun _ _ _ _ _ _ us hl => match us, hl with | [_], _ => rfl
theorem Names.bn__law_ids (n : Names K mg ca) : Binds K n.n__law_ids.fd [("items" : Str)] [] := n.n__law_ids.fn.bindsN fun _ _ _ _ _ _ us hl => match us, hl with | [_], _ => rfl
theorem Names.bn__law_things (n : Names K mg ca) : Binds K n.n__law_things.fd [("items" : Str)] [] := n.n__law_things.fn.bindsN fun _ _ _ _ _ _ us hl => match us, hl with | [_], _ => rfl
theorem Names.bn__law_three (n : Names K mg ca) : Binds K n.n__law_three.fd [("source" : Str)] [] := n.n__law_three.fn.bindsN fun _ _ _ _ _ _ us hl => match us, hl with | [_], _ => rfl
theorem Names.bn__law_mixed (n : Names K mg ca) : Binds K n.n__law_mixed.fd [("source" : Str), ("some" : Str)] [] := n.n__law_mixed.fn.bindsN fun _ _ _ _ _ _ us hl => match us, hl with | [_, _], _ => rfl
theorem Names.bn__law_drawing (n : Names K mg ca) : Binds K n.n__law_drawing.fd [("source" : Str), ("most" : Str), ("flat" : Str)] [] := n.n__law_drawing.fn.bindsN fun _ _ _ _ _ _ us hl => match us, hl with | [_, _, _], _ => rfl
theorem Names.bn__law_without (n : Names K mg ca) : Binds K n.n__law_without.fd [("things" : Str), ("names" : Str)] [] := n.n__law_without.fn.bindsN fun _ _ _ _ _ _ us hl => match us, hl with | [_, _], _ => rfl
theorem Names.bn__law_within (n : Names K mg ca) : Binds K n.n__law_within.fd [("drawing" : Str), ("name" : Str)] [] := n.n__law_within.fn.bindsN fun _ _ _ _ _ _ us hl => match us, hl with | [_, _], _ => rfl
theorem Names.bn__law_one_by_one (n : Names K mg ca) : Binds K n.n__law_one_by_one.fd [("source" : Str), ("drawing" : Str)] [] := n.n__law_one_by_one.fn.bindsN fun _ _ _ _ _ _ us hl => match us, hl with | [_, _], _ => rfl
theorem Names.bn__law_ends_right (n : Names K mg ca) : Binds K n.n__law_ends_right.fd [("drawing" : Str), ("name" : Str)] [] := n.n__law_ends_right.fn.bindsN fun _ _ _ _ _ _ us hl => match us, hl with | [_, _], _ => rfl
theorem Names.bn__law_sides_right (n : Names K mg ca) : Binds K n.n__law_sides_right.fd [("drawing" : Str), ("one" : Str), ("other" : Str), ("third" : Str)] [] := n.n__law_sides_right.fn.bindsN fun _ _ _ _ _ _ us hl => match us, hl with | [_, _, _, _], _ => rfl
theorem Names.bn_law (n : Names K mg ca) : Binds K n.n_law.fd [("script" : Str)] [] := n.n_law.fn.bindsN fun _ _ _ _ _ _ us hl => match us, hl with | [_], _ => rfl
end
theorem sc_is_name : FnScope [("value" : Str)] [("value" : Str)] (defScope s_is_name) := ⟨rfl, rfl, rfl, by decide +kernel, rfl, by decide +kernel, by decide +kernel⟩
theorem sc_is_thing : FnScope [("value" : Str)] [("value" : Str)] (defScope s_is_thing) := ⟨rfl, rfl, rfl, by decide +kernel, rfl, by decide +kernel, by decide +kernel⟩
theorem sc_is_group : FnScope [("value" : Str)] [("value" : Str)] (defScope s_is_group) := ⟨rfl, rfl, rfl, by decide +kernel, rfl, by decide +kernel, by decide +kernel⟩
theorem sc_all_things : FnScope [("items" : Str), ("found" : Str), ("item" : Str)] [("items" : Str)] (defScope s_all_things) := ⟨rfl, rfl, rfl, by decide +kernel, rfl, by decide +kernel, by decide +kernel⟩
theorem sc_group_names : FnScope [("items" : Str), ("found" : Str), ("item" : Str)] [("items" : Str)] (defScope s_group_names) := ⟨rfl, rfl, rfl, by decide +kernel, rfl, by decide +kernel, by decide +kernel⟩
theorem sc_are_items : FnScope [("value" : Str), ("deep" : Str), ("item" : Str)] [("value" : Str), ("deep" : Str)] (defScope s_are_items) := ⟨rfl, rfl, rfl, by decide +kernel, rfl, by decide +kernel, by decide +kernel⟩
theorem sc_is_right_drawing : FnScope [("value" : Str), ("things" : Str), ("groups" : Str), ("name" : Str)] [("value" : Str)] (defScope s_is_right_drawing) := ⟨rfl, rfl, rfl, by decide +kernel, rfl, by decide +kernel, by decide +kernel⟩
theorem sc_is_right_command : FnScope [("value" : Str), ("names" : Str), ("name" : Str)] [("value" : Str)] (defScope s_is_right_command) := ⟨rfl, rfl, rfl, by decide +kernel, rfl, by decide +kernel, by decide +kernel⟩
theorem sc_is_right_script : FnScope [("value" : Str), ("one" : Str)] [("value" : Str)] (defScope s_is_right_script) := ⟨rfl, rfl, rfl, by decide +kernel, rfl, by decide +kernel, by decide +kernel⟩
theorem sc_name_of : FnScope [("item" : Str)] [("item" : Str)] (defScope s_name_of) := ⟨rfl, rfl, rfl, by decide +kernel, rfl, by decide +kernel, by decide +kernel⟩
theorem sc_way_to : FnScope [("items" : Str), ("name" : Str), ("at" : Str), ("item" : Str), ("deeper" : Str)] [("items" : Str), ("name" : Str)] (defScope s_way_to) := ⟨rfl, rfl, rfl, by decide +kernel, rfl, by decide +kernel, by decide +kernel⟩
theorem sc_row_at : FnScope [("items" : Str), ("way" : Str), ("at" : Str)] [("items" : Str), ("way" : Str)] (defScope s_row_at) := ⟨rfl, rfl, rfl, by decide +kernel, rfl, by decide +kernel, by decide +kernel⟩
theorem sc_with_row : FnScope [("items" : Str), ("way" : Str), ("row" : Str), ("name" : Str), ("inner" : Str)] [("items" : Str), ("way" : Str), ("row" : Str)] (defScope s_with_row) := ⟨rfl, rfl, rfl, by decide +kernel, rfl, by decide +kernel, by decide +kernel⟩
theorem sc_need_drawing : FnScope [("value" : Str)] [("value" : Str)] (defScope s_need_drawing) := ⟨rfl, rfl, rfl, by decide +kernel, rfl, by decide +kernel, by decide +kernel⟩
theorem sc_need_script : FnScope [("value" : Str)] [("value" : Str)] (defScope s_need_script) := ⟨rfl, rfl, rfl, by decide +kernel, rfl, by decide +kernel, by decide +kernel⟩
theorem sc_need_name : FnScope [("value" : Str)] [("value" : Str)] (defScope s_need_name) := ⟨rfl, rfl, rfl, by decide +kernel, rfl, by decide +kernel, by decide +kernel⟩
theorem sc_is_drawing : FnScope [("value" : Str)] [("value" : Str)] (defScope s_is_drawing) := ⟨rfl, rfl, rfl, by decide +kernel, rfl, by decide +kernel, by decide +kernel⟩
theorem sc_painted : FnScope [("drawing" : Str)] [("drawing" : Str)] (defScope s_painted) := ⟨rfl, rfl, rfl, by decide +kernel, rfl, by decide +kernel, by decide +kernel⟩
theorem sc_place : FnScope [("drawing" : Str), ("name" : Str), ("way" : Str), ("found" : Str), ("items" : Str), ("at" : Str)] [("drawing" : Str), ("name" : Str)] (defScope s_place) := ⟨rfl, rfl, rfl, by decide +kernel, rfl, by decide +kernel, by decide +kernel⟩
theorem sc_index_in : FnScope [("row" : Str), ("name" : Str), ("at" : Str), ("item" : Str)] [("row" : Str), ("name" : Str)] (defScope s_index_in) := ⟨rfl, rfl, rfl, by decide +kernel, rfl, by decide +kernel, by decide +kernel⟩
theorem sc_moved : FnScope [("row" : Str), ("at" : Str), ("to" : Str), ("rest" : Str)] [("row" : Str), ("at" : Str), ("to" : Str)] (defScope s_moved) := ⟨rfl, rfl, rfl, by decide +kernel, rfl, by decide +kernel, by decide +kernel⟩
theorem sc_alone_in : FnScope [("word" : Str), ("row" : Str), ("at" : Str), ("top" : Str)] [("word" : Str), ("row" : Str), ("at" : Str)] (defScope s_alone_in) := ⟨rfl, rfl, rfl, by decide +kernel, rfl, by decide +kernel, by decide +kernel⟩
theorem sc_beside_in : FnScope [("word" : Str), ("row" : Str), ("at" : Str), ("other" : Str), ("to" : Str)] [("word" : Str), ("row" : Str), ("at" : Str), ("other" : Str)] (defScope s_beside_in) := ⟨rfl, rfl, rfl, by decide +kernel, rfl, by decide +kernel, by decide +kernel⟩
theorem sc_grouped_in : FnScope [("row" : Str), ("at" : Str), ("other" : Str), ("name" : Str), ("low" : Str), ("high" : Str), ("group" : Str)] [("row" : Str), ("at" : Str), ("other" : Str), ("name" : Str)] (defScope s_grouped_in) := ⟨rfl, rfl, rfl, by decide +kernel, rfl, by decide +kernel, by decide +kernel⟩
theorem sc_behind : FnScope [("command" : Str), ("drawing" : Str), ("word" : Str), ("names" : Str), ("way" : Str), ("row" : Str), ("at" : Str), ("other" : Str)] [("command" : Str), ("drawing" : Str)] (defScope s_behind) := ⟨rfl, rfl, rfl, by decide +kernel, rfl, by decide +kernel, by decide +kernel⟩
theorem sc_drawing_behind : FnScope [("script" : Str), ("drawing" : Str), ("command" : Str)] [("script" : Str), ("drawing" : Str)] (defScope s_drawing_behind) := ⟨rfl, rfl, rfl, by decide +kernel, rfl, by decide +kernel, by decide +kernel⟩
theorem sc_arranged : FnScope [("script" : Str), ("drawing" : Str)] [("script" : Str), ("drawing" : Str)] (defScope s_arranged) := ⟨rfl, rfl, rfl, by decide +kernel, rfl, by decide +kernel, by decide +kernel⟩
theorem sc__law_source : FnScope [("script" : Str), ("k" : Str), ("number" : Str), ("start" : Str)] [("script" : Str), ("k" : Str)] (defScope s__law_source) := ⟨rfl, rfl, rfl, by decide +kernel, rfl, by decide +kernel, by decide +kernel⟩
theorem sc__law_pick : FnScope [("source" : Str), ("many" : Str), ("found" : Str)] [("source" : Str), ("many" : Str)] (defScope s__law_pick) := ⟨rfl, rfl, rfl, by decide +kernel, rfl, by decide +kernel, by decide +kernel⟩
theorem sc__law_chosen : FnScope [("source" : Str), ("things" : Str)] [("source" : Str), ("things" : Str)] (defScope s__law_chosen) := ⟨rfl, rfl, rfl, by decide +kernel, rfl, by decide +kernel, by decide +kernel⟩
theorem sc__law_wide : FnScope [("value" : Str), ("low" : Str), ("high" : Str)] [("value" : Str), ("low" : Str), ("high" : Str)] (defScope s__law_wide) := ⟨rfl, rfl, rfl, by decide +kernel, rfl, by decide +kernel, by decide +kernel⟩
theorem sc__law_whole : FnScope [("value" : Str), ("low" : Str), ("high" : Str)] [("value" : Str), ("low" : Str), ("high" : Str)] (defScope s__law_whole) := ⟨rfl, rfl, rfl, by decide +kernel, rfl, by decide +kernel, by decide +kernel⟩
theorem sc__law_is_name : FnScope [("value" : Str)] [("value" : Str)] (defScope s__law_is_name) := ⟨rfl, rfl, rfl, by decide +kernel, rfl, by decide +kernel, by decide +kernel⟩
theorem sc__law_ids : FnScope [("items" : Str), ("found" : Str), ("item" : Str)] [("items" : Str)] (defScope s__law_ids) := ⟨rfl, rfl, rfl, by decide +kernel, rfl, by decide +kernel, by decide +kernel⟩
theorem sc__law_things : FnScope [("items" : Str), ("found" : Str), ("item" : Str)] [("items" : Str)] (defScope s__law_things) := ⟨rfl, rfl, rfl, by decide +kernel, rfl, by decide +kernel, by decide +kernel⟩
theorem sc__law_three : FnScope [("source" : Str)] [("source" : Str)] (defScope s__law_three) := ⟨rfl, rfl, rfl, by decide +kernel, rfl, by decide +kernel, by decide +kernel⟩
theorem sc__law_mixed : FnScope [("source" : Str), ("some" : Str), ("left" : Str), ("found" : Str)] [("source" : Str), ("some" : Str)] (defScope s__law_mixed) := ⟨rfl, rfl, rfl, by decide +kernel, rfl, by decide +kernel, by decide +kernel⟩
theorem sc__law_drawing : FnScope [("source" : Str), ("most" : Str), ("flat" : Str), ("names" : Str), ("numbers" : Str), ("groups" : Str), ("items" : Str), ("name" : Str), ("low" : Str), ("high" : Str), ("at" : Str)] [("source" : Str), ("most" : Str), ("flat" : Str)] (defScope s__law_drawing) := ⟨rfl, rfl, rfl, by decide +kernel, rfl, by decide +kernel, by decide +kernel⟩
theorem sc__law_without : FnScope [("things" : Str), ("names" : Str), ("thing" : Str)] [("things" : Str), ("names" : Str)] (defScope s__law_without) := ⟨rfl, rfl, rfl, by decide +kernel, rfl, by decide +kernel, by decide +kernel⟩
theorem sc__law_within : FnScope [("drawing" : Str), ("name" : Str), ("item" : Str), ("deeper" : Str)] [("drawing" : Str), ("name" : Str)] (defScope s__law_within) := ⟨rfl, rfl, rfl, by decide +kernel, rfl, by decide +kernel, by decide +kernel⟩
theorem sc__law_one_by_one : FnScope [("source" : Str), ("drawing" : Str), ("things" : Str), ("ids" : Str), ("word" : Str), ("names" : Str), ("size" : Str), ("found" : Str), ("mine" : Str)] [("source" : Str), ("drawing" : Str)] (defScope s__law_one_by_one) := ⟨rfl, rfl, rfl, by decide +kernel, rfl, by decide +kernel, by decide +kernel⟩
theorem sc__law_ends_right : FnScope [("drawing" : Str), ("name" : Str), ("here" : Str), ("top" : Str), ("low" : Str)] [("drawing" : Str), ("name" : Str)] (defScope s__law_ends_right) := ⟨rfl, rfl, rfl, by decide +kernel, rfl, by decide +kernel, by decide +kernel⟩
theorem sc__law_sides_right : FnScope [("drawing" : Str), ("one" : Str), ("other" : Str), ("third" : Str), ("here" : Str), ("there" : Str), ("found" : Str)] [("drawing" : Str), ("one" : Str), ("other" : Str), ("third" : Str)] (defScope s__law_sides_right) := ⟨rfl, rfl, rfl, by decide +kernel, rfl, by decide +kernel, by decide +kernel⟩
theorem sc_law : FnScope [("script" : Str), ("k" : Str), ("source" : Str), ("drawing" : Str), ("one" : Str), ("other" : Str), ("third" : Str)] [("script" : Str)] (defScope s_law) := ⟨rfl, rfl, rfl, by decide +kernel, rfl, by decide +kernel, by decide +kernel⟩
section
variable {P : Program} {w : World} {K : PySem.W.Frag} {mg : Str → Option Value} {base : Heap} {ca : Str → Addr}
theorem ok_is_name (n : Names K mg ca) : JF P w K mg base ca 1 n.n_is_name.f n.n_is_name.fd [("value" : Str)] F_is_name := fn_mk (N := [("value" : Str)]) (k := 0) n.n_is_name.fn sc_is_name fun cdv A outer s H E hr => (js_one (js_ret (je_and (je_isi (.inl rfl) rfl n.b_isinstance rfl n.b_str PyProof.Rows.boot_str (jv 0)) (je_one (je_in (room65 hr) (jv 0) (je_glob rfl n.c_NAMES.gl n.c_NAMES.rel n.c_NAMES.dr))))))
theorem ok_is_thing (n : Names K mg ca) : JF P w K mg base ca 2 n.n_is_thing.f n.n_is_thing.fd [("value" : Str)] F_is_thing := fn_mk (N := [("value" : Str)]) (k := 1) n.n_is_thing.fn sc_is_thing fun cdv A outer s H E hr => (js_cons (js_if (jt_w (jw_and (jt_val (je_isi (.inr (.inl rfl)) rfl n.b_isinstance rfl n.b_int PyProof.Rows.boot_int (jv 0))) (jw_and1 (jt_not (jt_val (je_isi (.inr (.inr (.inl rfl))) rfl n.b_isinstance rfl n.b_bool PyProof.Rows.boot_bool (jv 0))))))) (js_one (js_ret (je_leLe je_int (jv 0) (je_glob rfl n.c_MOST_NUMBER.gl n.c_MOST_NUMBER.rel n.c_MOST_NUMBER.dr)))) js_nil) (js_one (js_ret (je_call (ok_is_name n) (hr.mono (by omega)) (takes_of rfl rfl rfl rfl) rfl n.n_is_name.gl n.n_is_name.fn.kp (n.bn_is_name) (ja_cons (jv 0) ja_nil)))))
theorem ok_is_group (n : Names K mg ca) : JF P w K mg base ca 2 n.n_is_group.f n.n_is_group.fd [("value" : Str)] F_is_group := fn_mk (N := [("value" : Str)]) (k := 1) n.n_is_group.fn sc_is_group fun cdv A outer s H E hr => (js_one (js_ret (je_and (je_isi (.inr (.inr (.inr (.inl rfl)))) rfl n.b_isinstance rfl n.b_tuple PyProof.Rows.boot_tuple (jv 0)) (je_and (je_eq hr.units (je_len rfl n.b_len (jv 0)) je_int) (je_and (je_call (ok_is_name n) (hr.mono (by omega)) (takes_of rfl rfl rfl rfl) rfl n.n_is_name.gl n.n_is_name.fn.kp (n.bn_is_name) (ja_cons (je_ix (jv 0) je_int) ja_nil)) (je_one (je_isi (.inr (.inr (.inr (.inl rfl)))) rfl n.b_isinstance rfl n.b_tuple PyProof.Rows.boot_tuple (je_ix (jv 0) je_int))))))))
theorem ok_all_things (n : Names K mg ca) : ∀ d : Nat, JF P w K mg base ca (0 + d) n.n_all_things.f n.n_all_things.fd [("items" : Str)] (F_all_things d)
  | 0 => jf_stuck
  | d + 1 => fn_mk (N := [("items" : Str), ("found" : Str), ("item" : Str)]) (k := 0 + d) n.n_all_things.fn sc_all_things fun cdv A outer s H E hr => by
    have ih := ok_all_things n d
    generalize F_all_things d = F at ih
    exact (js_cons (js_setO sc_all_things.nd rfl (.inl rfl) (je_lst ja_nil (Nat.le_of_ble_eq_true rfl))) (js_cons (js_for (passes_of rfl) rfl (ji_it (jv 0)) (jg_name sc_all_things.nd rfl (.inl rfl)) (js_one (js_setO sc_all_things.nd rfl (.inl rfl) (je_add (jv 1) (je_if (jt_val (je_isi (.inr (.inr (.inr (.inl rfl)))) rfl n.b_isinstance rfl n.b_tuple PyProof.Rows.boot_tuple (jv 2))) (je_call ih (hr.mono (by omega)) (takes_of rfl rfl rfl rfl) rfl n.n_all_things.gl n.n_all_things.fn.kp (n.bn_all_things) (ja_cons (je_ix (jv 2) je_int) ja_nil)) (je_lst (ja_cons (jv 2) ja_nil) (Nat.le_of_ble_eq_true rfl))))))) (js_one (js_ret (jv 1)))))
theorem ok_group_names (n : Names K mg ca) : ∀ d : Nat, JF P w K mg base ca (0 + d) n.n_group_names.f n.n_group_names.fd [("items" : Str)] (F_group_names d)
  | 0 => jf_stuck
  | d + 1 => fn_mk (N := [("items" : Str), ("found" : Str), ("item" : Str)]) (k := 0 + d) n.n_group_names.fn sc_group_names fun cdv A outer s H E hr => by
    have ih := ok_group_names n d
    generalize F_group_names d = F at ih
    exact (js_cons (js_set sc_group_names.nd rfl (.inl rfl) (je_lst ja_nil (Nat.le_of_ble_eq_true rfl))) (js_cons (js_for (passes_of rfl) rfl (ji_it (jv 0)) (jg_name sc_group_names.nd rfl (.inl rfl)) (js_one (js_if (jt_val (je_isi (.inr (.inr (.inr (.inl rfl)))) rfl n.b_isinstance rfl n.b_tuple PyProof.Rows.boot_tuple (jv 2))) (js_one (js_set sc_group_names.nd rfl (.inl rfl) (je_add (je_add (jv 1) (je_lst (ja_cons (je_ix (jv 2) je_int) ja_nil) (Nat.le_of_ble_eq_true rfl))) (je_call ih (hr.mono (by omega)) (takes_of rfl rfl rfl rfl) rfl n.n_group_names.gl n.n_group_names.fn.kp (n.bn_group_names) (ja_cons (je_ix (jv 2) je_int) ja_nil))))) js_nil))) (js_one (js_ret (jv 1)))))
theorem ok_are_items (n : Names K mg ca) : ∀ d : Nat, JF P w K mg base ca (2 + d) n.n_are_items.f n.n_are_items.fd [("value" : Str), ("deep" : Str)] (F_are_items d)
  | 0 => jf_stuck
  | d + 1 => fn_mk (N := [("value" : Str), ("deep" : Str), ("item" : Str)]) (k := 2 + d) n.n_are_items.fn sc_are_items fun cdv A outer s H E hr => by
    have ih := ok_are_items n d
    generalize F_are_items d = F at ih
    exact (js_cons (js_if (jt_not (jt_val (je_isi (.inr (.inr (.inr (.inl rfl)))) rfl n.b_isinstance rfl n.b_tuple PyProof.Rows.boot_tuple (jv 0)))) (js_one (js_ret je_bl)) js_nil) (js_cons (js_for (passes_of rfl) rfl (ji_it (jv 0)) (jg_name sc_are_items.nd rfl (.inl rfl)) (js_cons (js_if (jt_w (jw_and (jt_not (jt_val (je_call (ok_is_thing n) (hr.mono (by omega)) (takes_of rfl rfl rfl rfl) rfl n.n_is_thing.gl n.n_is_thing.fn.kp (n.bn_is_thing) (ja_cons (jv 2) ja_nil)))) (jw_and1 (jt_not (jt_val (je_call (ok_is_group n) (hr.mono (by omega)) (takes_of rfl rfl rfl rfl) rfl n.n_is_group.gl n.n_is_group.fn.kp (n.bn_is_group) (ja_cons (jv 2) ja_nil))))))) (js_one (js_ret je_bl)) js_nil) (js_one (js_if (jt_w (jw_and (jt_val (je_isi (.inr (.inr (.inr (.inl rfl)))) rfl n.b_isinstance rfl n.b_tuple PyProof.Rows.boot_tuple (jv 2))) (jw_and1 (jt_w (jw_or (jt_eq hr.units (jv 1) je_int) (jw_or1 (jt_not (jt_val (je_call ih (hr.mono (by omega)) (takes_of rfl rfl rfl rfl) rfl n.n_are_items.gl n.n_are_items.fn.kp (n.bn_are_items) (ja_cons (je_ix (jv 2) je_int) (ja_cons (je_sub (jv 1) je_int) ja_nil))))))))))) (js_one (js_ret je_bl)) js_nil)))) (js_one (js_ret je_bl))))
theorem ok_is_right_drawing (n : Names K mg ca) : JF P w K mg base ca 43 n.n_is_right_drawing.f n.n_is_right_drawing.fd [("value" : Str)] F_is_right_drawing := fn_mk (N := [("value" : Str), ("things" : Str), ("groups" : Str), ("name" : Str)]) (k := 42) n.n_is_right_drawing.fn sc_is_right_drawing fun cdv A outer s H E hr => (js_cons (js_if (jt_not (jt_val (je_call (ok_are_items n 40) (hr.mono (by omega)) (takes_of rfl rfl rfl rfl) rfl n.n_are_items.gl n.n_are_items.fn.kp (n.bn_are_items) (ja_cons (jv 0) (ja_cons (je_len rfl n.b_len (je_glob rfl n.c_NAMES.gl n.c_NAMES.rel n.c_NAMES.dr)) ja_nil))))) (js_one (js_ret je_bl)) js_nil) (js_cons (js_asg (je_tup (ja_cons (je_call (ok_all_things n 40) (hr.mono (by omega)) (takes_of rfl rfl rfl rfl) rfl n.n_all_things.gl n.n_all_things.fn.kp (n.bn_all_things) (ja_cons (jv 0) ja_nil)) (ja_cons (je_call (ok_group_names n 40) (hr.mono (by omega)) (takes_of rfl rfl rfl rfl) rfl n.n_group_names.gl n.n_group_names.fn.kp (n.bn_group_names) (ja_cons (jv 0) ja_nil)) ja_nil)) (Nat.le_of_ble_eq_true rfl)) (jg_tup rfl (pgs_cons (pg_name (i := 1) sc_is_right_drawing.nd rfl (by first | exact Or.inl rfl | exact Or.inr rfl)) (pgs_cons (pg_name (i := 2) sc_is_right_drawing.nd rfl (by first | exact Or.inl rfl | exact Or.inr rfl)) pgs_nil)))) (js_cons (js_if (jt_w (jw_or (jt_gt (je_len rfl n.b_len (jv 1)) (je_glob rfl n.c_MOST_THINGS.gl n.c_MOST_THINGS.rel n.c_MOST_THINGS.dr)) (jw_or (jt_lt (je_lenSet rfl rfl n.b_len rfl n.b_set (jv 1)) (je_len rfl n.b_len (jv 1))) (jw_or1 (jt_lt (je_lenSet rfl rfl n.b_len rfl n.b_set (jv 2)) (je_len rfl n.b_len (jv 2))))))) (js_one (js_ret je_bl)) js_nil) (js_one (js_ret (je_all rfl rfl n.b_all (je_lc rfl sc_is_right_drawing.nd (ji_it (jv 2)) (own := [(("name" : Str), 3)]) (blkOk_by (N := [("value" : Str), ("things" : Str), ("groups" : Str), ("name" : Str)]) (sc := defScope s_is_right_drawing) (by decide +kernel)) (fun _ _ _ _ _ => (jg_name sc_is_right_drawing.nd rfl (by first | exact Or.inl rfl | exact Or.inr rfl))) (fun _ _ _ _ _ => jts_nil) (fun _ _ _ _ _ => (je_nin (room65 hr) (jv 3) (jv 1))))))))))
theorem ok_is_right_command (n : Names K mg ca) : JF P w K mg base ca 2 n.n_is_right_command.f n.n_is_right_command.fd [("value" : Str)] F_is_right_command := fn_mk (N := [("value" : Str), ("names" : Str), ("name" : Str)]) (k := 1) n.n_is_right_command.fn sc_is_right_command fun cdv A outer s H E hr => (js_cons (js_if (jt_w (jw_or (jt_not (jt_val (je_isi (.inr (.inr (.inr (.inl rfl)))) rfl n.b_isinstance rfl n.b_tuple PyProof.Rows.boot_tuple (jv 0)))) (jw_or (jt_eq hr.units (jv 0) (je_tup ja_nil (Nat.le_of_ble_eq_true rfl))) (jw_or1 (jt_not (jt_val (je_isi (.inl rfl) rfl n.b_isinstance rfl n.b_str PyProof.Rows.boot_str (je_ix (jv 0) je_int)))))))) (js_one (js_ret je_bl)) js_nil) (js_cons (js_set sc_is_right_command.nd rfl (.inl rfl) (je_sl (jv 0) (jo_some je_int) jo_none)) (js_cons (js_if (jt_w (jw_or (jt_not (jt_val (je_all rfl rfl n.b_all (je_lc rfl sc_is_right_command.nd (ji_it (jv 1)) (own := [(("name" : Str), 2)]) (blkOk_by (N := [("value" : Str), ("names" : Str), ("name" : Str)]) (sc := defScope s_is_right_command) (by decide +kernel)) (fun _ _ _ _ _ => (jg_name sc_is_right_command.nd rfl (by first | exact Or.inl rfl | exact Or.inr rfl))) (fun _ _ _ _ _ => jts_nil) (fun _ _ _ _ _ => (je_call (ok_is_name n) (hr.mono (by omega)) takes0 rfl n.n_is_name.gl n.n_is_name.fn.kp (n.bn_is_name) (ja_cons (jv 2) ja_nil))))))) (jw_or1 (jt_lt (je_lenSet rfl rfl n.b_len rfl n.b_set (jv 1)) (je_len rfl n.b_len (jv 1)))))) (js_one (js_ret je_bl)) js_nil) (js_cons (js_if (jt_in (room65 hr) (je_ix (jv 0) je_int) (je_glob rfl n.c_ALONE.gl n.c_ALONE.rel n.c_ALONE.dr)) (js_one (js_ret (je_eq hr.units (je_len rfl n.b_len (jv 1)) je_int))) js_nil) (js_cons (js_if (jt_in (room65 hr) (je_ix (jv 0) je_int) (je_glob rfl n.c_BESIDE.gl n.c_BESIDE.rel n.c_BESIDE.dr)) (js_one (js_ret (je_eq hr.units (je_len rfl n.b_len (jv 1)) je_int))) js_nil) (js_one (js_ret (je_and (je_eq hr.units (je_ix (jv 0) je_int) je_str) (je_one (je_eq hr.units (je_len rfl n.b_len (jv 1)) je_int))))))))))
theorem ok_is_right_script (n : Names K mg ca) : JF P w K mg base ca 3 n.n_is_right_script.f n.n_is_right_script.fd [("value" : Str)] F_is_right_script := fn_mk (N := [("value" : Str), ("one" : Str)]) (k := 2) n.n_is_right_script.fn sc_is_right_script fun cdv A outer s H E hr => (js_one (js_ret (je_and (je_isi (.inr (.inr (.inr (.inl rfl)))) rfl n.b_isinstance rfl n.b_tuple PyProof.Rows.boot_tuple (jv 0)) (je_and (je_le (je_len rfl n.b_len (jv 0)) (je_glob rfl n.c_MOST_COMMANDS.gl n.c_MOST_COMMANDS.rel n.c_MOST_COMMANDS.dr)) (je_one (je_all rfl rfl n.b_all (je_lc rfl sc_is_right_script.nd (ji_it (jv 0)) (own := [(("one" : Str), 1)]) (blkOk_by (N := [("value" : Str), ("one" : Str)]) (sc := defScope s_is_right_script) (by decide +kernel)) (fun _ _ _ _ _ => (jg_name sc_is_right_script.nd rfl (by first | exact Or.inl rfl | exact Or.inr rfl))) (fun _ _ _ _ _ => jts_nil) (fun _ _ _ _ _ => (je_call (ok_is_right_command n) (hr.mono (by omega)) takes0 rfl n.n_is_right_command.gl n.n_is_right_command.fn.kp (n.bn_is_right_command) (ja_cons (jv 1) ja_nil))))))))))
theorem ok_name_of (n : Names K mg ca) : JF P w K mg base ca 1 n.n_name_of.f n.n_name_of.fd [("item" : Str)] F_name_of := fn_mk (N := [("item" : Str)]) (k := 0) n.n_name_of.fn sc_name_of fun cdv A outer s H E hr => (js_one (js_ret (je_if (jt_val (je_isi (.inr (.inr (.inr (.inl rfl)))) rfl n.b_isinstance rfl n.b_tuple PyProof.Rows.boot_tuple (jv 0))) (je_ix (jv 0) je_int) (jv 0))))
theorem ok_way_to (n : Names K mg ca) : ∀ d : Nat, JF P w K mg base ca (1 + d) n.n_way_to.f n.n_way_to.fd [("items" : Str), ("name" : Str)] (F_way_to d)
  | 0 => jf_stuck
  | d + 1 => fn_mk (N := [("items" : Str), ("name" : Str), ("at" : Str), ("item" : Str), ("deeper" : Str)]) (k := 1 + d) n.n_way_to.fn sc_way_to fun cdv A outer s H E hr => by
    have ih := ok_way_to n d
    generalize F_way_to d = F at ih
    exact (js_cons (js_for (passes_of rfl) rfl (ji_enum rfl n.b_enumerate (jv 0)) (jg_tup rfl (pgs_cons (pg_name (i := 2) sc_way_to.nd rfl (by first | exact Or.inl rfl | exact Or.inr rfl)) (pgs_cons (pg_name (i := 3) sc_way_to.nd rfl (by first | exact Or.inl rfl | exact Or.inr rfl)) pgs_nil))) (js_cons (js_if (jt_eq hr.units (je_call (ok_name_of n) (hr.mono (by omega)) (takes_of rfl rfl rfl rfl) rfl n.n_name_of.gl n.n_name_of.fn.kp (n.bn_name_of) (ja_cons (jv 3) ja_nil)) (jv 1)) (js_one (js_ret (je_tup (ja_cons (jv 2) ja_nil) (Nat.le_of_ble_eq_true rfl)))) js_nil) (js_cons (js_set sc_way_to.nd rfl (.inl rfl) (je_if (jt_val (je_isi (.inr (.inr (.inr (.inl rfl)))) rfl n.b_isinstance rfl n.b_tuple PyProof.Rows.boot_tuple (jv 3))) (je_call ih (hr.mono (by omega)) (takes_of rfl rfl rfl rfl) rfl n.n_way_to.gl n.n_way_to.fn.kp (n.bn_way_to) (ja_cons (je_ix (jv 3) je_int) (ja_cons (jv 1) ja_nil))) je_non)) (js_one (js_if (jt_isnt (jv 4)) (js_one (js_ret (je_add (je_tup (ja_cons (jv 2) ja_nil) (Nat.le_of_ble_eq_true rfl)) (jv 4)))) js_nil))))) (js_one (js_ret je_non)))
theorem ok_row_at (n : Names K mg ca) : JF P w K mg base ca 1 n.n_row_at.f n.n_row_at.fd [("items" : Str), ("way" : Str)] F_row_at := fn_mk (N := [("items" : Str), ("way" : Str), ("at" : Str)]) (k := 0) n.n_row_at.fn sc_row_at fun cdv A outer s H E hr => (js_cons (js_for (passes_of rfl) rfl (ji_it (je_sl (jv 1) jo_none (jo_some (je_sub (je_len rfl n.b_len (jv 1)) je_int)))) (jg_name sc_row_at.nd rfl (.inl rfl)) (js_one (js_set sc_row_at.nd rfl (.inl rfl) (je_ix (je_ix (jv 0) (jv 2)) je_int)))) (js_one (js_ret (jv 0))))
theorem ok_with_row (n : Names K mg ca) : ∀ d : Nat, JF P w K mg base ca (0 + d) n.n_with_row.f n.n_with_row.fd [("items" : Str), ("way" : Str), ("row" : Str)] (F_with_row d)
  | 0 => jf_stuck
  | d + 1 => fn_mk (N := [("items" : Str), ("way" : Str), ("row" : Str), ("name" : Str), ("inner" : Str)]) (k := 0 + d) n.n_with_row.fn sc_with_row fun cdv A outer s H E hr => by
    have ih := ok_with_row n d
    generalize F_with_row d = F at ih
    exact (js_cons (js_if (jt_eq hr.units (je_len rfl n.b_len (jv 1)) je_int) (js_one (js_ret (jv 2))) js_nil) (js_cons (js_asg (je_ix (jv 0) (je_ix (jv 1) je_int)) (jg_tup rfl (pgs_cons (pg_name (i := 3) sc_with_row.nd rfl (by first | exact Or.inl rfl | exact Or.inr rfl)) (pgs_cons (pg_name (i := 4) sc_with_row.nd rfl (by first | exact Or.inl rfl | exact Or.inr rfl)) pgs_nil)))) (js_one (js_ret (je_add (je_add (je_sl (jv 0) jo_none (jo_some (je_ix (jv 1) je_int))) (je_tup (ja_cons (je_tup (ja_cons (jv 3) (ja_cons (je_call ih (hr.mono (by omega)) (takes_of rfl rfl rfl rfl) rfl n.n_with_row.gl n.n_with_row.fn.kp (n.bn_with_row) (ja_cons (jv 4) (ja_cons (je_sl (jv 1) (jo_some je_int) jo_none) (ja_cons (jv 2) ja_nil)))) ja_nil)) (Nat.le_of_ble_eq_true rfl)) ja_nil) (Nat.le_of_ble_eq_true rfl))) (je_sl (jv 0) (jo_some (je_add (je_ix (jv 1) je_int) je_int)) jo_none))))))
theorem ok_need_drawing (n : Names K mg ca) : JF P w K mg base ca 44 n.n_need_drawing.f n.n_need_drawing.fd [("value" : Str)] F_need_drawing := fn_mk (N := [("value" : Str)]) (k := 43) n.n_need_drawing.fn sc_need_drawing fun cdv A outer s H E hr => (js_one (js_if (jt_not (jt_val (je_call (ok_is_right_drawing n) (hr.mono (by omega)) (takes_of rfl rfl rfl rfl) rfl n.n_is_right_drawing.gl n.n_is_right_drawing.fn.kp (n.bn_is_right_drawing) (ja_cons (jv 0) ja_nil)))) (js_one (js_raise n.x_InvalidDrawing rfl (takes_of rfl rfl rfl rfl) rfl)) js_nil))
theorem ok_need_script (n : Names K mg ca) : JF P w K mg base ca 4 n.n_need_script.f n.n_need_script.fd [("value" : Str)] F_need_script := fn_mk (N := [("value" : Str)]) (k := 3) n.n_need_script.fn sc_need_script fun cdv A outer s H E hr => (js_one (js_if (jt_not (jt_val (je_call (ok_is_right_script n) (hr.mono (by omega)) (takes_of rfl rfl rfl rfl) rfl n.n_is_right_script.gl n.n_is_right_script.fn.kp (n.bn_is_right_script) (ja_cons (jv 0) ja_nil)))) (js_one (js_raise n.x_InvalidScript rfl (takes_of rfl rfl rfl rfl) rfl)) js_nil))
theorem ok_need_name (n : Names K mg ca) : JF P w K mg base ca 2 n.n_need_name.f n.n_need_name.fd [("value" : Str)] F_need_name := fn_mk (N := [("value" : Str)]) (k := 1) n.n_need_name.fn sc_need_name fun cdv A outer s H E hr => (js_one (js_if (jt_not (jt_val (je_call (ok_is_name n) (hr.mono (by omega)) (takes_of rfl rfl rfl rfl) rfl n.n_is_name.gl n.n_is_name.fn.kp (n.bn_is_name) (ja_cons (jv 0) ja_nil)))) (js_one (js_raise n.x_InvalidName rfl (takes_of rfl rfl rfl rfl) rfl)) js_nil))
theorem ok_is_drawing (n : Names K mg ca) : JF P w K mg base ca 44 n.n_is_drawing.f n.n_is_drawing.fd [("value" : Str)] F_is_drawing := fn_mk (N := [("value" : Str)]) (k := 43) n.n_is_drawing.fn sc_is_drawing fun cdv A outer s H E hr => (js_one (js_ret (je_call (ok_is_right_drawing n) (hr.mono (by omega)) (takes_of rfl rfl rfl rfl) rfl n.n_is_right_drawing.gl n.n_is_right_drawing.fn.kp (n.bn_is_right_drawing) (ja_cons (jv 0) ja_nil))))
theorem ok_painted (n : Names K mg ca) : JF P w K mg base ca 45 n.n_painted.f n.n_painted.fd [("drawing" : Str)] F_painted := fn_mk (N := [("drawing" : Str)]) (k := 44) n.n_painted.fn sc_painted fun cdv A outer s H E hr => (js_cons (js_expr (je_call (ok_need_drawing n) (hr.mono (by omega)) (takes_of rfl rfl rfl rfl) rfl n.n_need_drawing.gl n.n_need_drawing.fn.kp (n.bn_need_drawing) (ja_cons (jv 0) ja_nil))) (js_one (js_ret (je_call (ok_all_things n 40) (hr.mono (by omega)) (takes_of rfl rfl rfl rfl) rfl n.n_all_things.gl n.n_all_things.fn.kp (n.bn_all_things) (ja_cons (jv 0) ja_nil)))))
theorem ok_place (n : Names K mg ca) : JF P w K mg base ca 45 n.n_place.f n.n_place.fd [("drawing" : Str), ("name" : Str)] F_place := fn_mk (N := [("drawing" : Str), ("name" : Str), ("way" : Str), ("found" : Str), ("items" : Str), ("at" : Str)]) (k := 44) n.n_place.fn sc_place fun cdv A outer s H E hr => (js_cons (js_expr (je_call (ok_need_drawing n) (hr.mono (by omega)) (takes_of rfl rfl rfl rfl) rfl n.n_need_drawing.gl n.n_need_drawing.fn.kp (n.bn_need_drawing) (ja_cons (jv 0) ja_nil))) (js_cons (js_expr (je_call (ok_need_name n) (hr.mono (by omega)) (takes_of rfl rfl rfl rfl) rfl n.n_need_name.gl n.n_need_name.fn.kp (n.bn_need_name) (ja_cons (jv 1) ja_nil))) (js_cons (js_set sc_place.nd rfl (.inl rfl) (je_call (ok_way_to n 40) (hr.mono (by omega)) (takes_of rfl rfl rfl rfl) rfl n.n_way_to.gl n.n_way_to.fn.kp (n.bn_way_to) (ja_cons (jv 0) (ja_cons (jv 1) ja_nil)))) (js_cons (js_if (jt_is (jv 2)) (js_one (js_ret je_non)) js_nil) (js_cons (js_set sc_place.nd rfl (.inl rfl) (je_tup ja_nil (Nat.le_of_ble_eq_true rfl))) (js_cons (js_set sc_place.nd rfl (.inl rfl) (jv 0)) (js_cons (js_for (passes_of rfl) rfl (ji_it (je_sl (jv 2) jo_none (jo_some (je_sub (je_len rfl n.b_len (jv 2)) je_int)))) (jg_name sc_place.nd rfl (.inl rfl)) (js_cons (js_set sc_place.nd rfl (.inl rfl) (je_add (jv 3) (je_tup (ja_cons (je_ix (je_ix (jv 4) (jv 5)) je_int) ja_nil) (Nat.le_of_ble_eq_true rfl)))) (js_one (js_set sc_place.nd rfl (.inl rfl) (je_ix (je_ix (jv 4) (jv 5)) je_int))))) (js_one (js_ret (je_add (jv 3) (je_tup (ja_cons (je_ix (jv 2) (je_sub (je_len rfl n.b_len (jv 2)) je_int)) ja_nil) (Nat.le_of_ble_eq_true rfl))))))))))))
theorem ok_index_in (n : Names K mg ca) : JF P w K mg base ca 2 n.n_index_in.f n.n_index_in.fd [("row" : Str), ("name" : Str)] F_index_in := fn_mk (N := [("row" : Str), ("name" : Str), ("at" : Str), ("item" : Str)]) (k := 1) n.n_index_in.fn sc_index_in fun cdv A outer s H E hr => (js_cons (js_for (passes_of rfl) rfl (ji_enum rfl n.b_enumerate (jv 0)) (jg_tup rfl (pgs_cons (pg_name (i := 2) sc_index_in.nd rfl (by first | exact Or.inl rfl | exact Or.inr rfl)) (pgs_cons (pg_name (i := 3) sc_index_in.nd rfl (by first | exact Or.inl rfl | exact Or.inr rfl)) pgs_nil))) (js_one (js_if (jt_eq hr.units (je_call (ok_name_of n) (hr.mono (by omega)) (takes_of rfl rfl rfl rfl) rfl n.n_name_of.gl n.n_name_of.fn.kp (n.bn_name_of) (ja_cons (jv 3) ja_nil)) (jv 1)) (js_one (js_ret (jv 2))) js_nil))) (js_one (js_ret je_non)))
theorem ok_moved (n : Names K mg ca) : JF P w K mg base ca 1 n.n_moved.f n.n_moved.fd [("row" : Str), ("at" : Str), ("to" : Str)] F_moved := fn_mk (N := [("row" : Str), ("at" : Str), ("to" : Str), ("rest" : Str)]) (k := 0) n.n_moved.fn sc_moved fun cdv A outer s H E hr => (js_cons (js_set sc_moved.nd rfl (.inl rfl) (je_add (je_sl (jv 0) jo_none (jo_some (jv 1))) (je_sl (jv 0) (jo_some (je_add (jv 1) je_int)) jo_none))) (js_one (js_ret (je_add (je_add (je_sl (jv 3) jo_none (jo_some (jv 2))) (je_tup (ja_cons (je_ix (jv 0) (jv 1)) ja_nil) (Nat.le_of_ble_eq_true rfl))) (je_sl (jv 3) (jo_some (jv 2)) jo_none)))))
theorem ok_alone_in (n : Names K mg ca) : JF P w K mg base ca 2 n.n_alone_in.f n.n_alone_in.fd [("word" : Str), ("row" : Str), ("at" : Str)] F_alone_in := fn_mk (N := [("word" : Str), ("row" : Str), ("at" : Str), ("top" : Str)]) (k := 1) n.n_alone_in.fn sc_alone_in fun cdv A outer s H E hr => (js_cons (js_set sc_alone_in.nd rfl (.inl rfl) (je_sub (je_len rfl n.b_len (jv 1)) je_int)) (js_cons (js_if (jt_eq hr.units (jv 0) je_str) (js_one (js_ret (je_if (jt_val (je_isi (.inr (.inr (.inr (.inl rfl)))) rfl n.b_isinstance rfl n.b_tuple PyProof.Rows.boot_tuple (je_ix (jv 1) (jv 2)))) (je_add (je_add (je_sl (jv 1) jo_none (jo_some (jv 2))) (je_ix (je_ix (jv 1) (jv 2)) je_int)) (je_sl (jv 1) (jo_some (je_add (jv 2) je_int)) jo_none)) (jv 1)))) js_nil) (js_cons (js_if (jt_in (room65 hr) (jv 0) (je_tup (ja_cons je_str (ja_cons je_str ja_nil)) (Nat.le_of_ble_eq_true rfl))) (js_one (js_ret (je_call (ok_moved n) (hr.mono (by omega)) (takes_of rfl rfl rfl rfl) rfl n.n_moved.gl n.n_moved.fn.kp (n.bn_moved) (ja_cons (jv 1) (ja_cons (jv 2) (ja_cons (je_if (jt_eq hr.units (jv 0) je_str) (jv 3) je_int) ja_nil)))))) js_nil) (js_one (js_ret (je_call (ok_moved n) (hr.mono (by omega)) (takes_of rfl rfl rfl rfl) rfl n.n_moved.gl n.n_moved.fn.kp (n.bn_moved) (ja_cons (jv 1) (ja_cons (jv 2) (ja_cons (je_if (jt_eq hr.units (jv 0) je_str) (je_min rfl rfl n.b_min (je_add (jv 2) je_int) (jv 3)) (je_max rfl rfl n.b_max (je_sub (jv 2) je_int) je_int)) ja_nil)))))))))
theorem ok_beside_in (n : Names K mg ca) : JF P w K mg base ca 2 n.n_beside_in.f n.n_beside_in.fd [("word" : Str), ("row" : Str), ("at" : Str), ("other" : Str)] F_beside_in := fn_mk (N := [("word" : Str), ("row" : Str), ("at" : Str), ("other" : Str), ("to" : Str)]) (k := 1) n.n_beside_in.fn sc_beside_in fun cdv A outer s H E hr => (js_cons (js_set sc_beside_in.nd rfl (.inl rfl) (je_if (jt_lt (jv 2) (jv 3)) (je_sub (jv 3) je_int) (jv 3))) (js_one (js_ret (je_call (ok_moved n) (hr.mono (by omega)) (takes_of rfl rfl rfl rfl) rfl n.n_moved.gl n.n_moved.fn.kp (n.bn_moved) (ja_cons (jv 1) (ja_cons (jv 2) (ja_cons (je_if (jt_eq hr.units (jv 0) je_str) (je_add (jv 4) je_int) (jv 4)) ja_nil)))))))
theorem ok_grouped_in (n : Names K mg ca) : JF P w K mg base ca 1 n.n_grouped_in.f n.n_grouped_in.fd [("row" : Str), ("at" : Str), ("other" : Str), ("name" : Str)] F_grouped_in := fn_mk (N := [("row" : Str), ("at" : Str), ("other" : Str), ("name" : Str), ("low" : Str), ("high" : Str), ("group" : Str)]) (k := 0) n.n_grouped_in.fn sc_grouped_in fun cdv A outer s H E hr => (js_cons (js_par rfl sc_grouped_in.nd rfl rfl (by decide) rfl rfl (je_min rfl rfl n.b_min (jv 1) (jv 2)) (je_max rfl rfl n.b_max (jv 1) (jv 2)) rfl) (js_cons (js_set sc_grouped_in.nd rfl (.inl rfl) (je_tup (ja_cons (jv 3) (ja_cons (je_tup (ja_cons (je_ix (jv 0) (jv 4)) (ja_cons (je_ix (jv 0) (jv 5)) ja_nil)) (Nat.le_of_ble_eq_true rfl)) ja_nil)) (Nat.le_of_ble_eq_true rfl))) (js_one (js_ret (je_add (je_add (je_add (je_sl (jv 0) jo_none (jo_some (jv 4))) (je_sl (jv 0) (jo_some (je_add (jv 4) je_int)) (jo_some (jv 5)))) (je_tup (ja_cons (jv 6) ja_nil) (Nat.le_of_ble_eq_true rfl))) (je_sl (jv 0) (jo_some (je_add (jv 5) je_int)) jo_none))))))
theorem ok_behind (n : Names K mg ca) : JF P w K mg base ca 42 n.n_behind.f n.n_behind.fd [("command" : Str), ("drawing" : Str)] F_behind := fn_mk (N := [("command" : Str), ("drawing" : Str), ("word" : Str), ("names" : Str), ("way" : Str), ("row" : Str), ("at" : Str), ("other" : Str)]) (k := 41) n.n_behind.fn sc_behind fun cdv A outer s H E hr => (js_cons (js_par rfl sc_behind.nd rfl rfl (by decide) rfl rfl (je_ix (jv 0) je_int) (je_sl (jv 0) (jo_some je_int) jo_none) rfl) (js_cons (js_set sc_behind.nd rfl (.inl rfl) (je_call (ok_way_to n 40) (hr.mono (by omega)) (takes_of rfl rfl rfl rfl) rfl n.n_way_to.gl n.n_way_to.fn.kp (n.bn_way_to) (ja_cons (jv 1) (ja_cons (je_ix (jv 3) je_int) ja_nil)))) (js_cons (js_if (jt_is (jv 4)) (js_one (js_ret (jv 1))) js_nil) (js_cons (js_par rfl sc_behind.nd rfl rfl (by decide) rfl rfl (je_call (ok_row_at n) (hr.mono (by omega)) (takes_of rfl rfl rfl rfl) rfl n.n_row_at.gl n.n_row_at.fn.kp (n.bn_row_at) (ja_cons (jv 1) (ja_cons (jv 4) ja_nil))) (je_ix (jv 4) (je_sub (je_len rfl n.b_len (jv 4)) je_int)) rfl) (js_cons (js_if (jt_eq hr.units (je_len rfl n.b_len (jv 3)) je_int) (js_one (js_ret (je_call (ok_with_row n 40) (hr.mono (by omega)) (takes_of rfl rfl rfl rfl) rfl n.n_with_row.gl n.n_with_row.fn.kp (n.bn_with_row) (ja_cons (jv 1) (ja_cons (jv 4) (ja_cons (je_call (ok_alone_in n) (hr.mono (by omega)) (takes_of rfl rfl rfl rfl) rfl n.n_alone_in.gl n.n_alone_in.fn.kp (n.bn_alone_in) (ja_cons (jv 2) (ja_cons (jv 5) (ja_cons (jv 6) ja_nil)))) ja_nil)))))) js_nil) (js_cons (js_set sc_behind.nd rfl (.inl rfl) (je_call (ok_index_in n) (hr.mono (by omega)) (takes_of rfl rfl rfl rfl) rfl n.n_index_in.gl n.n_index_in.fn.kp (n.bn_index_in) (ja_cons (jv 5) (ja_cons (je_ix (jv 3) je_int) ja_nil)))) (js_cons (js_if (jt_is (jv 7)) (js_one (js_ret (jv 1))) js_nil) (js_cons (js_if (jt_in (room65 hr) (jv 2) (je_glob rfl n.c_BESIDE.gl n.c_BESIDE.rel n.c_BESIDE.dr)) (js_one (js_ret (je_call (ok_with_row n 40) (hr.mono (by omega)) (takes_of rfl rfl rfl rfl) rfl n.n_with_row.gl n.n_with_row.fn.kp (n.bn_with_row) (ja_cons (jv 1) (ja_cons (jv 4) (ja_cons (je_call (ok_beside_in n) (hr.mono (by omega)) (takes_of rfl rfl rfl rfl) rfl n.n_beside_in.gl n.n_beside_in.fn.kp (n.bn_beside_in) (ja_cons (jv 2) (ja_cons (jv 5) (ja_cons (jv 6) (ja_cons (jv 7) ja_nil))))) ja_nil)))))) js_nil) (js_cons (js_if (jt_isnt (je_call (ok_way_to n 40) (hr.mono (by omega)) (takes_of rfl rfl rfl rfl) rfl n.n_way_to.gl n.n_way_to.fn.kp (n.bn_way_to) (ja_cons (jv 1) (ja_cons (je_ix (jv 3) je_int) ja_nil)))) (js_one (js_ret (jv 1))) js_nil) (js_one (js_ret (je_call (ok_with_row n 40) (hr.mono (by omega)) (takes_of rfl rfl rfl rfl) rfl n.n_with_row.gl n.n_with_row.fn.kp (n.bn_with_row) (ja_cons (jv 1) (ja_cons (jv 4) (ja_cons (je_call (ok_grouped_in n) (hr.mono (by omega)) (takes_of rfl rfl rfl rfl) rfl n.n_grouped_in.gl n.n_grouped_in.fn.kp (n.bn_grouped_in) (ja_cons (jv 5) (ja_cons (jv 6) (ja_cons (jv 7) (ja_cons (je_ix (jv 3) je_int) ja_nil))))) ja_nil)))))))))))))))
theorem ok_drawing_behind (n : Names K mg ca) : JF P w K mg base ca 43 n.n_drawing_behind.f n.n_drawing_behind.fd [("script" : Str), ("drawing" : Str)] F_drawing_behind := fn_mk (N := [("script" : Str), ("drawing" : Str), ("command" : Str)]) (k := 42) n.n_drawing_behind.fn sc_drawing_behind fun cdv A outer s H E hr => (js_cons (js_for (passes_of rfl) rfl (ji_it (jv 0)) (jg_name sc_drawing_behind.nd rfl (.inl rfl)) (js_one (js_set sc_drawing_behind.nd rfl (.inl rfl) (je_call (ok_behind n) (hr.mono (by omega)) (takes_of rfl rfl rfl rfl) rfl n.n_behind.gl n.n_behind.fn.kp (n.bn_behind) (ja_cons (jv 2) (ja_cons (jv 1) ja_nil)))))) (js_one (js_ret (jv 1))))
theorem ok_arranged (n : Names K mg ca) : JF P w K mg base ca 45 n.n_arranged.f n.n_arranged.fd [("script" : Str), ("drawing" : Str)] F_arranged := fn_mk (N := [("script" : Str), ("drawing" : Str)]) (k := 44) n.n_arranged.fn sc_arranged fun cdv A outer s H E hr => (js_cons (js_expr (je_call (ok_need_script n) (hr.mono (by omega)) (takes_of rfl rfl rfl rfl) rfl n.n_need_script.gl n.n_need_script.fn.kp (n.bn_need_script) (ja_cons (jv 0) ja_nil))) (js_cons (js_expr (je_call (ok_need_drawing n) (hr.mono (by omega)) (takes_of rfl rfl rfl rfl) rfl n.n_need_drawing.gl n.n_need_drawing.fn.kp (n.bn_need_drawing) (ja_cons (jv 1) ja_nil))) (js_one (js_ret (je_call (ok_drawing_behind n) (hr.mono (by omega)) (takes_of rfl rfl rfl rfl) rfl n.n_drawing_behind.gl n.n_drawing_behind.fn.kp (n.bn_drawing_behind) (ja_cons (jv 0) (ja_cons (jv 1) ja_nil)))))))
theorem ok__law_source (n : Names K mg ca) : JF P w K mg base ca 1 n.n__law_source.f n.n__law_source.fd [("script" : Str), ("k" : Str)] F__law_source := fn_mk (N := [("script" : Str), ("k" : Str), ("number" : Str), ("start" : Str)]) (k := 0) n.n__law_source.fn sc__law_source fun cdv A outer s H E hr => (js_cons (js_set sc__law_source.nd rfl (.inl rfl) je_int) (js_cons (js_if (jt_gt (je_len rfl n.b_len (jv 0)) (jv 1)) (js_one (js_set sc__law_source.nd rfl (.inl rfl) (je_intOf rfl n.b_int (je_ix (jv 0) (jv 1))))) js_nil) (js_cons (js_set sc__law_source.nd rfl (.inl rfl) (je_mod (je_add (je_add (je_mul (jv 2) je_int) (je_mul je_int (jv 1))) je_int) je_int)) (js_cons (js_set sc__law_source.nd rfl (.inl rfl) (je_add (je_add (je_mod (je_mul (jv 3) (jv 3)) je_int) (je_mul je_int (jv 1))) je_int)) (js_one (js_ret (je_lst (ja_cons (je_if (jt_ge (jv 2) (je_pow je_int je_int)) (jv 2) je_int) (ja_cons (jv 3) ja_nil)) (Nat.le_of_ble_eq_true rfl))))))))
theorem ok__law_pick (n : Names K mg ca) : JF P w K mg base ca 1 n.n__law_pick.f n.n__law_pick.fd [("source" : Str), ("many" : Str)] F__law_pick := fn_mk (N := [("source" : Str), ("many" : Str), ("found" : Str)]) (k := 0) n.n__law_pick.fn sc__law_pick fun cdv A outer s H E hr => (js_cons (js_if (jt_gt (je_ix (jv 0) je_int) je_int) (js_cons (js_set sc__law_pick.nd rfl (.inl rfl) (je_mod (je_intOf rfl n.b_int (je_ix (jv 0) je_int)) (jv 1))) (js_cons (js_put (i := 0) rfl (by first | exact Or.inl rfl | exact Or.inr (Or.inl rfl)) (je_div (je_intOf rfl n.b_int (je_ix (jv 0) je_int)) (jv 1)) je_int) (js_one (js_ret (jv 2))))) js_nil) (js_cons (js_put (i := 0) rfl (by first | exact Or.inl rfl | exact Or.inr (Or.inl rfl)) (je_mod (je_intOf rfl n.b_int (je_add (je_mul (je_ix (jv 0) je_int) je_int) je_int)) je_int) je_int) (js_one (js_ret (je_mod (je_div (je_mod (je_intOf rfl n.b_int (je_mul (je_ix (jv 0) je_int) (je_ix (jv 0) je_int))) je_int) je_int) (jv 1))))))
theorem ok__law_chosen (n : Names K mg ca) : JF P w K mg base ca 2 n.n__law_chosen.f n.n__law_chosen.fd [("source" : Str), ("things" : Str)] F__law_chosen := fn_mk (N := [("source" : Str), ("things" : Str)]) (k := 1) n.n__law_chosen.fn sc__law_chosen fun cdv A outer s H E hr => (js_one (js_ret (je_ix (jv 1) (je_call (ok__law_pick n) (hr.mono (by omega)) (takes_of rfl rfl rfl rfl) rfl n.n__law_pick.gl n.n__law_pick.fn.kp (n.bn__law_pick) (ja_cons (jv 0) (ja_cons (je_len rfl n.b_len (jv 1)) ja_nil))))))
theorem ok__law_wide (n : Names K mg ca) : JF P w K mg base ca 1 n.n__law_wide.f n.n__law_wide.fd [("value" : Str), ("low" : Str), ("high" : Str)] F__law_wide := fn_mk (N := [("value" : Str), ("low" : Str), ("high" : Str)]) (k := 0) n.n__law_wide.fn sc__law_wide fun cdv A outer s H E hr => (js_one (js_ret (je_and (je_isi (.inr (.inr (.inr (.inl rfl)))) rfl n.b_isinstance rfl n.b_tuple PyProof.Rows.boot_tuple (jv 0)) (je_one (je_leLe (jv 1) (je_len rfl n.b_len (jv 0)) (jv 2))))))
theorem ok__law_whole (n : Names K mg ca) : JF P w K mg base ca 1 n.n__law_whole.f n.n__law_whole.fd [("value" : Str), ("low" : Str), ("high" : Str)] F__law_whole := fn_mk (N := [("value" : Str), ("low" : Str), ("high" : Str)]) (k := 0) n.n__law_whole.fn sc__law_whole fun cdv A outer s H E hr => (js_one (js_ret (je_and (je_isi (.inr (.inl rfl)) rfl n.b_isinstance rfl n.b_int PyProof.Rows.boot_int (jv 0)) (je_and (je_not (je_isi (.inr (.inr (.inl rfl))) rfl n.b_isinstance rfl n.b_bool PyProof.Rows.boot_bool (jv 0))) (je_one (je_leLe (jv 1) (jv 0) (jv 2)))))))
theorem ok__law_is_name (n : Names K mg ca) : JF P w K mg base ca 1 n.n__law_is_name.f n.n__law_is_name.fd [("value" : Str)] F__law_is_name := fn_mk (N := [("value" : Str)]) (k := 0) n.n__law_is_name.fn sc__law_is_name fun cdv A outer s H E hr => (js_one (js_ret (je_and (je_isi (.inl rfl) rfl n.b_isinstance rfl n.b_str PyProof.Rows.boot_str (jv 0)) (je_one (je_in (room65 hr) (jv 0) (je_tup (ja_cons je_str (ja_cons je_str (ja_cons je_str ja_nil))) (Nat.le_of_ble_eq_true rfl)))))))
theorem ok__law_ids (n : Names K mg ca) : ∀ d : Nat, JF P w K mg base ca (1 + d) n.n__law_ids.f n.n__law_ids.fd [("items" : Str)] (F__law_ids d)
  | 0 => jf_stuck
  | d + 1 => fn_mk (N := [("items" : Str), ("found" : Str), ("item" : Str)]) (k := 1 + d) n.n__law_ids.fn sc__law_ids fun cdv A outer s H E hr => by
    have ih := ok__law_ids n d
    generalize F__law_ids d = F at ih
    exact (js_cons (js_setO sc__law_ids.nd rfl (.inl rfl) (je_lst ja_nil (Nat.le_of_ble_eq_true rfl))) (js_cons (js_for (passes_of rfl) rfl (ji_it (jv 0)) (jg_name sc__law_ids.nd rfl (.inl rfl)) (js_one (js_if (jt_w (jw_and (jt_val (je_call (ok__law_wide n) (hr.mono (by omega)) (takes_of rfl rfl rfl rfl) rfl n.n__law_wide.gl n.n__law_wide.fn.kp (n.bn__law_wide) (ja_cons (jv 2) (ja_cons je_int (ja_cons je_int ja_nil))))) (jw_and (jt_val (je_call (ok__law_is_name n) (hr.mono (by omega)) (takes_of rfl rfl rfl rfl) rfl n.n__law_is_name.gl n.n__law_is_name.fn.kp (n.bn__law_is_name) (ja_cons (je_ix (jv 2) je_int) ja_nil))) (jw_and1 (jt_val (je_isi (.inr (.inr (.inr (.inl rfl)))) rfl n.b_isinstance rfl n.b_tuple PyProof.Rows.boot_tuple (je_ix (jv 2) je_int))))))) (js_one (js_setO sc__law_ids.nd rfl (.inl rfl) (je_add (je_add (jv 1) (je_lst (ja_cons (je_ix (jv 2) je_int) ja_nil) (Nat.le_of_ble_eq_true rfl))) (je_call ih (hr.mono (by omega)) (takes_of rfl rfl rfl rfl) rfl n.n__law_ids.gl n.n__law_ids.fn.kp (n.bn__law_ids) (ja_cons (je_ix (jv 2) je_int) ja_nil))))) (js_one (js_app (i := 1) rfl (by first | exact Or.inl rfl | exact Or.inr (Or.inl rfl)) (je_if (jt_w (jw_or (jt_val (je_call (ok__law_is_name n) (hr.mono (by omega)) (takes_of rfl rfl rfl rfl) rfl n.n__law_is_name.gl n.n__law_is_name.fn.kp (n.bn__law_is_name) (ja_cons (jv 2) ja_nil))) (jw_or1 (jt_val (je_call (ok__law_whole n) (hr.mono (by omega)) (takes_of rfl rfl rfl rfl) rfl n.n__law_whole.gl n.n__law_whole.fn.kp (n.bn__law_whole) (ja_cons (jv 2) (ja_cons je_int (ja_cons je_int ja_nil)))))))) (jv 2) je_non)))))) (js_one (js_ret (jv 1)))))
theorem ok__law_things (n : Names K mg ca) : ∀ d : Nat, JF P w K mg base ca (0 + d) n.n__law_things.f n.n__law_things.fd [("items" : Str)] (F__law_things d)
  | 0 => jf_stuck
  | d + 1 => fn_mk (N := [("items" : Str), ("found" : Str), ("item" : Str)]) (k := 0 + d) n.n__law_things.fn sc__law_things fun cdv A outer s H E hr => by
    have ih := ok__law_things n d
    generalize F__law_things d = F at ih
    exact (js_cons (js_set sc__law_things.nd rfl (.inl rfl) (je_lst ja_nil (Nat.le_of_ble_eq_true rfl))) (js_cons (js_for (passes_of rfl) rfl (ji_it (jv 0)) (jg_name sc__law_things.nd rfl (.inl rfl)) (js_one (js_set sc__law_things.nd rfl (.inl rfl) (je_add (jv 1) (je_if (jt_val (je_isi (.inr (.inr (.inr (.inl rfl)))) rfl n.b_isinstance rfl n.b_tuple PyProof.Rows.boot_tuple (jv 2))) (je_call ih (hr.mono (by omega)) (takes_of rfl rfl rfl rfl) rfl n.n__law_things.gl n.n__law_things.fn.kp (n.bn__law_things) (ja_cons (je_ix (jv 2) je_int) ja_nil)) (je_lst (ja_cons (jv 2) ja_nil) (Nat.le_of_ble_eq_true rfl))))))) (js_one (js_ret (jv 1)))))
theorem ok__law_three (n : Names K mg ca) : JF P w K mg base ca 3 n.n__law_three.f n.n__law_three.fd [("source" : Str)] F__law_three := fn_mk (N := [("source" : Str)]) (k := 2) n.n__law_three.fn sc__law_three fun cdv A outer s H E hr => (js_one (js_ret (je_listOf rfl rfl n.b_list (je_call (ok__law_chosen n) (hr.mono (by omega)) (takes_of rfl rfl rfl rfl) rfl n.n__law_chosen.gl n.n__law_chosen.fn.kp (n.bn__law_chosen) (ja_cons (jv 0) (ja_cons (je_lst (ja_cons je_str (ja_cons je_str (ja_cons je_str (ja_cons je_str (ja_cons je_str (ja_cons je_str ja_nil)))))) (Nat.le_of_ble_eq_true rfl)) ja_nil))))))
theorem ok__law_mixed (n : Names K mg ca) : JF P w K mg base ca 2 n.n__law_mixed.f n.n__law_mixed.fd [("source" : Str), ("some" : Str)] F__law_mixed := fn_mk (N := [("source" : Str), ("some" : Str), ("left" : Str), ("found" : Str)]) (k := 1) n.n__law_mixed.fn sc__law_mixed fun cdv A outer s H E hr => (js_cons (js_par rfl sc__law_mixed.nd rfl rfl (by decide) rfl rfl (je_listOf rfl rfl n.b_list (jv 1)) (je_lst ja_nil (Nat.le_of_ble_eq_true rfl)) rfl) (js_cons (js_while 200 (passes_of rfl) (jt_ne hr.units (jv 2) (je_lst ja_nil (Nat.le_of_ble_eq_true rfl))) (js_one (js_appPop (i := 3) (j := 2) rfl (by first | exact Or.inl rfl | exact Or.inr (Or.inl rfl)) rfl (by first | exact Or.inl rfl | exact Or.inr (Or.inl rfl)) (je_call (ok__law_pick n) (hr.mono (by omega)) (takes_of rfl rfl rfl rfl) rfl n.n__law_pick.gl n.n__law_pick.fn.kp (n.bn__law_pick) (ja_cons (jv 0) (ja_cons (je_len rfl n.b_len (jv 2)) ja_nil)))))) (js_one (js_ret (jv 3)))))
theorem ok__law_drawing (n : Names K mg ca) : JF P w K mg base ca 4 n.n__law_drawing.f n.n__law_drawing.fd [("source" : Str), ("most" : Str), ("flat" : Str)] F__law_drawing := fn_mk (N := [("source" : Str), ("most" : Str), ("flat" : Str), ("names" : Str), ("numbers" : Str), ("groups" : Str), ("items" : Str), ("name" : Str), ("low" : Str), ("high" : Str), ("at" : Str)]) (k := 3) n.n__law_drawing.fn sc__law_drawing fun cdv A outer s H E hr => (js_cons (js_set sc__law_drawing.nd rfl (.inr rfl) (je_sl (je_call (ok__law_three n) (hr.mono (by omega)) (takes_of rfl rfl rfl rfl) rfl n.n__law_three.gl n.n__law_three.fn.kp (n.bn__law_three) (ja_cons (jv 0) ja_nil)) jo_none (jo_some (je_call (ok__law_pick n) (hr.mono (by omega)) (takes_of rfl rfl rfl rfl) rfl n.n__law_pick.gl n.n__law_pick.fn.kp (n.bn__law_pick) (ja_cons (jv 0) (ja_cons je_int ja_nil)))))) (js_cons (js_setLc rfl sc__law_drawing.nd rfl rfl rfl (ji_rng1 rfl n.b_range (je_call (ok__law_pick n) (hr.mono (by omega)) (takes_of rfl rfl rfl rfl) rfl n.n__law_pick.gl n.n__law_pick.fn.kp (n.bn__law_pick) (ja_cons (jv 0) (ja_cons (je_add (jv 1) je_int) ja_nil)))) (own := [(("at" : Str), 10)]) (blkOk_by (N := [("source" : Str), ("most" : Str), ("flat" : Str), ("names" : Str), ("numbers" : Str), ("groups" : Str), ("items" : Str), ("name" : Str), ("low" : Str), ("high" : Str), ("at" : Str)]) (sc := defScope s__law_drawing) (by decide +kernel)) (fun _ _ _ _ _ => (jg_name sc__law_drawing.nd rfl (by first | exact Or.inl rfl | exact Or.inr rfl))) (fun _ _ _ _ _ => jts_nil) (fun _ _ _ _ _ => (je_mod (je_add (je_mul je_int (jv 10)) je_int) je_int))) (js_cons (js_setLc rfl sc__law_drawing.nd rfl rfl rfl (ji_it je_str) (own := [(("name" : Str), 7)]) (blkOk_by (N := [("source" : Str), ("most" : Str), ("flat" : Str), ("names" : Str), ("numbers" : Str), ("groups" : Str), ("items" : Str), ("name" : Str), ("low" : Str), ("high" : Str), ("at" : Str)]) (sc := defScope s__law_drawing) (by decide +kernel)) (fun _ _ _ _ _ => (jg_name sc__law_drawing.nd rfl (by first | exact Or.inl rfl | exact Or.inr rfl))) (fun _ _ _ _ _ => (jts_one (jt_w (jw_and (jt_nin (room65 hr) (jv 7) (jv 3)) (jw_and1 (jt_not (jt_val (jv 2)))))))) (fun _ _ _ _ _ => (jv 7))) (js_cons (js_set sc__law_drawing.nd rfl (.inl rfl) (je_sl (jv 5) jo_none (jo_some (je_call (ok__law_pick n) (hr.mono (by omega)) (takes_of rfl rfl rfl rfl) rfl n.n__law_pick.gl n.n__law_pick.fn.kp (n.bn__law_pick) (ja_cons (jv 0) (ja_cons je_int ja_nil)))))) (js_cons (js_set sc__law_drawing.nd rfl (.inl rfl) (je_tupOf rfl n.b_tuple (je_call (ok__law_mixed n) (hr.mono (by omega)) (takes_of rfl rfl rfl rfl) rfl n.n__law_mixed.gl n.n__law_mixed.fn.kp (n.bn__law_mixed) (ja_cons (jv 0) (ja_cons (je_add (jv 3) (jv 4)) ja_nil))))) (js_cons (js_for (passes_of rfl) rfl (ji_it (jv 5)) (jg_name sc__law_drawing.nd rfl (.inl rfl)) (js_cons (js_set sc__law_drawing.nd rfl (.inl rfl) (je_call (ok__law_pick n) (hr.mono (by omega)) (takes_of rfl rfl rfl rfl) rfl n.n__law_pick.gl n.n__law_pick.fn.kp (n.bn__law_pick) (ja_cons (jv 0) (ja_cons (je_add (je_len rfl n.b_len (jv 6)) je_int) ja_nil)))) (js_cons (js_set sc__law_drawing.nd rfl (.inl rfl) (je_add (jv 8) (je_call (ok__law_pick n) (hr.mono (by omega)) (takes_of rfl rfl rfl rfl) rfl n.n__law_pick.gl n.n__law_pick.fn.kp (n.bn__law_pick) (ja_cons (jv 0) (ja_cons (je_add (je_sub (je_len rfl n.b_len (jv 6)) (jv 8)) je_int) ja_nil))))) (js_one (js_set sc__law_drawing.nd rfl (.inl rfl) (je_add (je_add (je_sl (jv 6) jo_none (jo_some (jv 8))) (je_tup (ja_cons (je_tup (ja_cons (jv 7) (ja_cons (je_sl (jv 6) (jo_some (jv 8)) (jo_some (jv 9))) ja_nil)) (Nat.le_of_ble_eq_true rfl)) ja_nil) (Nat.le_of_ble_eq_true rfl))) (je_sl (jv 6) (jo_some (jv 9)) jo_none))))))) (js_one (js_ret (jv 6)))))))))
theorem ok__law_without (n : Names K mg ca) : JF P w K mg base ca 1 n.n__law_without.f n.n__law_without.fd [("things" : Str), ("names" : Str)] F__law_without := fn_mk (N := [("things" : Str), ("names" : Str), ("thing" : Str)]) (k := 0) n.n__law_without.fn sc__law_without fun cdv A outer s H E hr => (js_one (js_ret (je_lc rfl sc__law_without.nd (ji_it (jv 0)) (own := [(("thing" : Str), 2)]) (blkOk_by (N := [("things" : Str), ("names" : Str), ("thing" : Str)]) (sc := defScope s__law_without) (by decide +kernel)) (fun _ _ _ _ _ => (jg_name sc__law_without.nd rfl (by first | exact Or.inl rfl | exact Or.inr rfl))) (fun _ _ _ _ _ => (jts_one (jt_nin (room65 hr) (jv 2) (jv 1)))) (fun _ _ _ _ _ => (jv 2)))))
theorem ok__law_within (n : Names K mg ca) : ∀ d : Nat, JF P w K mg base ca (40 + d) n.n__law_within.f n.n__law_within.fd [("drawing" : Str), ("name" : Str)] (F__law_within d)
  | 0 => jf_stuck
  | d + 1 => fn_mk (N := [("drawing" : Str), ("name" : Str), ("item" : Str), ("deeper" : Str)]) (k := 40 + d) n.n__law_within.fn sc__law_within fun cdv A outer s H E hr => by
    have ih := ok__law_within n d
    generalize F__law_within d = F at ih
    exact (js_cons (js_for (passes_of rfl) rfl (ji_it (jv 0)) (jg_name sc__law_within.nd rfl (.inl rfl)) (js_one (js_if (jt_val (je_isi (.inr (.inr (.inr (.inl rfl)))) rfl n.b_isinstance rfl n.b_tuple PyProof.Rows.boot_tuple (jv 2))) (js_cons (js_if (jt_eq hr.units (je_ix (jv 2) je_int) (jv 1)) (js_one (js_ret (je_call (ok__law_things n 40) (hr.mono (by omega)) (takes_of rfl rfl rfl rfl) rfl n.n__law_things.gl n.n__law_things.fn.kp (n.bn__law_things) (ja_cons (je_ix (jv 2) je_int) ja_nil)))) js_nil) (js_cons (js_set sc__law_within.nd rfl (.inl rfl) (je_call ih (hr.mono (by omega)) (takes_of rfl rfl rfl rfl) rfl n.n__law_within.gl n.n__law_within.fn.kp (n.bn__law_within) (ja_cons (je_ix (jv 2) je_int) (ja_cons (jv 1) ja_nil)))) (js_one (js_if (jt_isnt (jv 3)) (js_one (js_ret (jv 3))) js_nil)))) (js_one (js_if (jt_eq hr.units (jv 2) (jv 1)) (js_one (js_ret (je_lst (ja_cons (jv 1) ja_nil) (Nat.le_of_ble_eq_true rfl)))) js_nil))))) (js_one (js_ret je_non)))
theorem ok__law_one_by_one (n : Names K mg ca) : JF P w K mg base ca 81 n.n__law_one_by_one.f n.n__law_one_by_one.fd [("source" : Str), ("drawing" : Str)] F__law_one_by_one := fn_mk (N := [("source" : Str), ("drawing" : Str), ("things" : Str), ("ids" : Str), ("word" : Str), ("names" : Str), ("size" : Str), ("found" : Str), ("mine" : Str)]) (k := 80) n.n__law_one_by_one.fn sc__law_one_by_one fun cdv A outer s H E hr => (js_cons (js_par rfl sc__law_one_by_one.nd rfl rfl (by decide) rfl rfl (je_call (ok_painted n) (hr.mono (by omega)) (takes_of rfl rfl rfl rfl) rfl n.n_painted.gl n.n_painted.fn.kp (n.bn_painted) (ja_cons (jv 1) ja_nil)) (je_call (ok__law_ids n 40) (hr.mono (by omega)) (takes_of rfl rfl rfl rfl) rfl n.n__law_ids.gl n.n__law_ids.fn.kp (n.bn__law_ids) (ja_cons (jv 1) ja_nil)) rfl) (js_cons (js_frz 3 (js_frz 2 (js_for (passes_of rfl) rfl (ji_it (je_tup (ja_cons je_str (ja_cons je_str (ja_cons je_str (ja_cons je_str (ja_cons je_str (ja_cons je_str (ja_cons je_str (ja_cons je_str ja_nil)))))))) (Nat.le_of_ble_eq_true rfl))) (jg_name sc__law_one_by_one.nd rfl (.inl rfl)) (js_cons (js_set sc__law_one_by_one.nd rfl (.inl rfl) (je_tupOf rfl n.b_tuple (je_call (ok__law_three n) (hr.mono (by omega)) (takes_of rfl rfl rfl rfl) rfl n.n__law_three.gl n.n__law_three.fn.kp (n.bn__law_three) (ja_cons (jv 0) ja_nil)))) (js_cons (js_set sc__law_one_by_one.nd rfl (.inl rfl) (je_dget2 (room1 hr) (je_fix (je_dict (jp_cons je_int (jp_cons je_int (jp_cons je_int jp_nil))))) (jv 4) je_int)) (js_cons (js_set sc__law_one_by_one.nd rfl (.inl rfl) (je_call (ok_arranged n) (hr.mono (by omega)) (takes_of rfl rfl rfl rfl) rfl n.n_arranged.gl n.n_arranged.fn.kp (n.bn_arranged) (ja_cons (je_tup (ja_cons (je_add (je_tup (ja_cons (jv 4) ja_nil) (Nat.le_of_ble_eq_true rfl)) (je_sl (jv 5) jo_none (jo_some (jv 6)))) ja_nil) (Nat.le_of_ble_eq_true rfl)) (ja_cons (jv 1) ja_nil)))) (js_cons (js_if (jt_w (jw_or (jt_not (jt_val (je_call (ok_is_drawing n) (hr.mono (by omega)) (takes_of rfl rfl rfl rfl) rfl n.n_is_drawing.gl n.n_is_drawing.fn.kp (n.bn_is_drawing) (ja_cons (jv 7) ja_nil)))) (jw_or1 (jt_neSet rfl (room0 hr) rfl n.b_set (je_call (ok__law_things n 40) (hr.mono (by omega)) (takes_of rfl rfl rfl rfl) rfl n.n__law_things.gl n.n__law_things.fn.kp (n.bn__law_things) (ja_cons (jv 7) ja_nil)) (jv 2))))) (js_one (js_ret je_bl)) js_nil) (js_cons (js_if (jt_w (jw_and (jt_nin (room65 hr) (jv 4) (je_tup (ja_cons je_str (ja_cons je_str ja_nil)) (Nat.le_of_ble_eq_true rfl))) (jw_and1 (jt_neSet rfl (room0 hr) rfl n.b_set (je_call (ok__law_ids n 40) (hr.mono (by omega)) (takes_of rfl rfl rfl rfl) rfl n.n__law_ids.gl n.n__law_ids.fn.kp (n.bn__law_ids) (ja_cons (jv 7) ja_nil)) (jv 3))))) (js_one (js_ret je_bl)) js_nil) (js_cons (js_set sc__law_one_by_one.nd rfl (.inl rfl) (je_call (ok__law_within n 40) (hr.mono (by omega)) (takes_of rfl rfl rfl rfl) rfl n.n__law_within.gl n.n__law_within.fn.kp (n.bn__law_within) (ja_cons (jv 1) (ja_cons (je_ix (jv 5) je_int) ja_nil)))) (js_cons (js_if (jt_w (jw_and (jt_is (jv 8)) (jw_and1 (jt_ne hr.units (jv 7) (jv 1))))) (js_one (js_ret je_bl)) js_nil) (js_one (js_if (jt_w (jw_and (jt_isnt (jv 8)) (jw_and1 (jt_ne hr.units (jv 4) je_str)))) (js_one (js_if (jt_ne hr.units (je_call (ok__law_without n) (hr.mono (by omega)) (takes_of rfl rfl rfl rfl) rfl n.n__law_without.gl n.n__law_without.fn.kp (n.bn__law_without) (ja_cons (je_call (ok_painted n) (hr.mono (by omega)) (takes_of rfl rfl rfl rfl) rfl n.n_painted.gl n.n_painted.fn.kp (n.bn_painted) (ja_cons (jv 7) ja_nil)) (ja_cons (jv 8) ja_nil))) (je_call (ok__law_without n) (hr.mono (by omega)) (takes_of rfl rfl rfl rfl) rfl n.n__law_without.gl n.n__law_without.fn.kp (n.bn__law_without) (ja_cons (jv 2) (ja_cons (jv 8) ja_nil)))) (js_one (js_ret je_bl)) js_nil)) js_nil)))))))))))) (js_one (js_ret je_bl))))
theorem ok__law_ends_right (n : Names K mg ca) : JF P w K mg base ca 46 n.n__law_ends_right.f n.n__law_ends_right.fd [("drawing" : Str), ("name" : Str)] F__law_ends_right := fn_mk (N := [("drawing" : Str), ("name" : Str), ("here" : Str), ("top" : Str), ("low" : Str)]) (k := 45) n.n__law_ends_right.fn sc__law_ends_right fun cdv A outer s H E hr => (js_cons (js_set sc__law_ends_right.nd rfl (.inl rfl) (je_call (ok_place n) (hr.mono (by omega)) (takes_of rfl rfl rfl rfl) rfl n.n_place.gl n.n_place.fn.kp (n.bn_place) (ja_cons (jv 0) (ja_cons (jv 1) ja_nil)))) (js_cons (js_if (jt_is (jv 2)) (js_one (js_ret je_bl)) js_nil) (js_cons (js_par rfl sc__law_ends_right.nd rfl rfl (by decide) rfl rfl (je_call (ok_arranged n) (hr.mono (by omega)) (takes_of rfl rfl rfl rfl) rfl n.n_arranged.gl n.n_arranged.fn.kp (n.bn_arranged) (ja_cons (je_tup (ja_cons (je_tup (ja_cons je_str (ja_cons (jv 1) ja_nil)) (Nat.le_of_ble_eq_true rfl)) ja_nil) (Nat.le_of_ble_eq_true rfl)) (ja_cons (jv 0) ja_nil))) (je_call (ok_arranged n) (hr.mono (by omega)) (takes_of rfl rfl rfl rfl) rfl n.n_arranged.gl n.n_arranged.fn.kp (n.bn_arranged) (ja_cons (je_tup (ja_cons (je_tup (ja_cons je_str (ja_cons (jv 1) ja_nil)) (Nat.le_of_ble_eq_true rfl)) ja_nil) (Nat.le_of_ble_eq_true rfl)) (ja_cons (jv 0) ja_nil))) rfl) (js_cons (js_if (jt_w (jw_or (jt_ne hr.units (je_sl (je_call (ok_place n) (hr.mono (by omega)) (takes_of rfl rfl rfl rfl) rfl n.n_place.gl n.n_place.fn.kp (n.bn_place) (ja_cons (jv 3) (ja_cons (jv 1) ja_nil))) jo_none (jo_some (je_neg je_int))) (je_sl (jv 2) jo_none (jo_some (je_neg je_int)))) (jw_or1 (jt_ne hr.units (je_call (ok_place n) (hr.mono (by omega)) (takes_of rfl rfl rfl rfl) rfl n.n_place.gl n.n_place.fn.kp (n.bn_place) (ja_cons (jv 4) (ja_cons (jv 1) ja_nil))) (je_add (je_sl (jv 2) jo_none (jo_some (je_neg je_int))) (je_tup (ja_cons je_int ja_nil) (Nat.le_of_ble_eq_true rfl))))))) (js_one (js_ret je_bl)) js_nil) (js_cons (js_if (jt_w (jw_or (jt_ne hr.units (je_call (ok_arranged n) (hr.mono (by omega)) (takes_of rfl rfl rfl rfl) rfl n.n_arranged.gl n.n_arranged.fn.kp (n.bn_arranged) (ja_cons (je_tup (ja_cons (je_tup (ja_cons je_str (ja_cons (jv 1) ja_nil)) (Nat.le_of_ble_eq_true rfl)) ja_nil) (Nat.le_of_ble_eq_true rfl)) (ja_cons (jv 3) ja_nil))) (jv 3)) (jw_or1 (jt_ne hr.units (je_call (ok_arranged n) (hr.mono (by omega)) (takes_of rfl rfl rfl rfl) rfl n.n_arranged.gl n.n_arranged.fn.kp (n.bn_arranged) (ja_cons (je_tup (ja_cons (je_tup (ja_cons je_str (ja_cons (jv 1) ja_nil)) (Nat.le_of_ble_eq_true rfl)) ja_nil) (Nat.le_of_ble_eq_true rfl)) (ja_cons (jv 4) ja_nil))) (jv 4))))) (js_one (js_ret je_bl)) js_nil) (js_cons (js_if (jt_w (jw_and (jt_ne hr.units (jv 0) (jv 3)) (jw_and1 (jt_ne hr.units (je_call (ok_arranged n) (hr.mono (by omega)) (takes_of rfl rfl rfl rfl) rfl n.n_arranged.gl n.n_arranged.fn.kp (n.bn_arranged) (ja_cons (je_tup (ja_cons (je_tup (ja_cons je_str (ja_cons (jv 1) ja_nil)) (Nat.le_of_ble_eq_true rfl)) (ja_cons (je_tup (ja_cons je_str (ja_cons (jv 1) ja_nil)) (Nat.le_of_ble_eq_true rfl)) ja_nil)) (Nat.le_of_ble_eq_true rfl)) (ja_cons (jv 0) ja_nil))) (jv 0))))) (js_one (js_ret je_bl)) js_nil) (js_one (js_ret (je_or (je_eq hr.units (jv 0) (jv 4)) (je_one (je_eq hr.units (je_call (ok_arranged n) (hr.mono (by omega)) (takes_of rfl rfl rfl rfl) rfl n.n_arranged.gl n.n_arranged.fn.kp (n.bn_arranged) (ja_cons (je_tup (ja_cons (je_tup (ja_cons je_str (ja_cons (jv 1) ja_nil)) (Nat.le_of_ble_eq_true rfl)) (ja_cons (je_tup (ja_cons je_str (ja_cons (jv 1) ja_nil)) (Nat.le_of_ble_eq_true rfl)) ja_nil)) (Nat.le_of_ble_eq_true rfl)) (ja_cons (jv 0) ja_nil))) (jv 0))))))))))))
theorem ok__law_sides_right (n : Names K mg ca) : JF P w K mg base ca 46 n.n__law_sides_right.f n.n__law_sides_right.fd [("drawing" : Str), ("one" : Str), ("other" : Str), ("third" : Str)] F__law_sides_right := fn_mk (N := [("drawing" : Str), ("one" : Str), ("other" : Str), ("third" : Str), ("here" : Str), ("there" : Str), ("found" : Str)]) (k := 45) n.n__law_sides_right.fn sc__law_sides_right fun cdv A outer s H E hr => (js_cons (js_par rfl sc__law_sides_right.nd rfl rfl (by decide) rfl rfl (je_call (ok_place n) (hr.mono (by omega)) (takes_of rfl rfl rfl rfl) rfl n.n_place.gl n.n_place.fn.kp (n.bn_place) (ja_cons (jv 0) (ja_cons (jv 1) ja_nil))) (je_call (ok_place n) (hr.mono (by omega)) (takes_of rfl rfl rfl rfl) rfl n.n_place.gl n.n_place.fn.kp (n.bn_place) (ja_cons (jv 0) (ja_cons (jv 2) ja_nil))) rfl) (js_cons (js_if (jt_w (jw_or (jt_is (jv 4)) (jw_or (jt_is (jv 5)) (jw_or1 (jt_ne hr.units (je_sl (jv 4) jo_none (jo_some (je_neg je_int))) (je_sl (jv 5) jo_none (jo_some (je_neg je_int)))))))) (js_one (js_ret je_bl)) js_nil) (js_cons (js_set sc__law_sides_right.nd rfl (.inl rfl) (je_call (ok_arranged n) (hr.mono (by omega)) (takes_of rfl rfl rfl rfl) rfl n.n_arranged.gl n.n_arranged.fn.kp (n.bn_arranged) (ja_cons (je_tup (ja_cons (je_tup (ja_cons je_str (ja_cons (jv 1) (ja_cons (jv 2) ja_nil))) (Nat.le_of_ble_eq_true rfl)) ja_nil) (Nat.le_of_ble_eq_true rfl)) (ja_cons (jv 0) ja_nil)))) (js_cons (js_if (jt_ne hr.units (je_ix (je_call (ok_place n) (hr.mono (by omega)) (takes_of rfl rfl rfl rfl) rfl n.n_place.gl n.n_place.fn.kp (n.bn_place) (ja_cons (jv 6) (ja_cons (jv 1) ja_nil))) (je_neg je_int)) (je_add (je_ix (je_call (ok_place n) (hr.mono (by omega)) (takes_of rfl rfl rfl rfl) rfl n.n_place.gl n.n_place.fn.kp (n.bn_place) (ja_cons (jv 6) (ja_cons (jv 2) ja_nil))) (je_neg je_int)) je_int)) (js_one (js_ret je_bl)) js_nil) (js_cons (js_set sc__law_sides_right.nd rfl (.inl rfl) (je_call (ok_arranged n) (hr.mono (by omega)) (takes_of rfl rfl rfl rfl) rfl n.n_arranged.gl n.n_arranged.fn.kp (n.bn_arranged) (ja_cons (je_tup (ja_cons (je_tup (ja_cons je_str (ja_cons (jv 1) (ja_cons (jv 2) ja_nil))) (Nat.le_of_ble_eq_true rfl)) ja_nil) (Nat.le_of_ble_eq_true rfl)) (ja_cons (jv 0) ja_nil)))) (js_cons (js_if (jt_ne hr.units (je_ix (je_call (ok_place n) (hr.mono (by omega)) (takes_of rfl rfl rfl rfl) rfl n.n_place.gl n.n_place.fn.kp (n.bn_place) (ja_cons (jv 6) (ja_cons (jv 1) ja_nil))) (je_neg je_int)) (je_sub (je_ix (je_call (ok_place n) (hr.mono (by omega)) (takes_of rfl rfl rfl rfl) rfl n.n_place.gl n.n_place.fn.kp (n.bn_place) (ja_cons (jv 6) (ja_cons (jv 2) ja_nil))) (je_neg je_int)) je_int)) (js_one (js_ret je_bl)) js_nil) (js_cons (js_if (jt_isnt (je_call (ok_place n) (hr.mono (by omega)) (takes_of rfl rfl rfl rfl) rfl n.n_place.gl n.n_place.fn.kp (n.bn_place) (ja_cons (jv 0) (ja_cons (jv 3) ja_nil)))) (js_one (js_ret je_bl)) js_nil) (js_cons (js_set sc__law_sides_right.nd rfl (.inl rfl) (je_call (ok_arranged n) (hr.mono (by omega)) (takes_of rfl rfl rfl rfl) rfl n.n_arranged.gl n.n_arranged.fn.kp (n.bn_arranged) (ja_cons (je_tup (ja_cons (je_tup (ja_cons je_str (ja_cons (jv 1) (ja_cons (jv 2) (ja_cons (jv 3) ja_nil)))) (Nat.le_of_ble_eq_true rfl)) (ja_cons (je_tup (ja_cons je_str (ja_cons (jv 3) ja_nil)) (Nat.le_of_ble_eq_true rfl)) ja_nil)) (Nat.le_of_ble_eq_true rfl)) (ja_cons (jv 0) ja_nil)))) (js_one (js_ret (je_eq hr.units (je_sub (je_ix (je_call (ok_place n) (hr.mono (by omega)) (takes_of rfl rfl rfl rfl) rfl n.n_place.gl n.n_place.fn.kp (n.bn_place) (ja_cons (jv 6) (ja_cons (jv 1) ja_nil))) (je_neg je_int)) (je_ix (je_call (ok_place n) (hr.mono (by omega)) (takes_of rfl rfl rfl rfl) rfl n.n_place.gl n.n_place.fn.kp (n.bn_place) (ja_cons (jv 6) (ja_cons (jv 2) ja_nil))) (je_neg je_int))) (je_if (jt_gt (je_ix (jv 4) (je_neg je_int)) (je_ix (jv 5) (je_neg je_int))) je_int (je_neg je_int)))))))))))))
theorem ok_law (n : Names K mg ca) : JF P w K mg base ca 82 n.n_law.f n.n_law.fd [("script" : Str)] F_law_k12 := fn_mk (N := [("script" : Str), ("k" : Str), ("source" : Str), ("drawing" : Str), ("one" : Str), ("other" : Str), ("third" : Str)]) (k := 81) n.n_law.fn sc_law fun cdv A outer s H E hr => (js_cons (js_for (passes_of rfl) rfl (ji_rng1 rfl n.b_range (je_max rfl rfl n.b_max je_int (je_min rfl rfl n.b_min je_int (je_len rfl n.b_len (jv 0))))) (jg_name sc_law.nd rfl (.inl rfl)) (js_cons (js_set sc_law.nd rfl (.inl rfl) (je_ref (je_call (ok__law_source n) (hr.mono (by omega)) (takes_of rfl rfl rfl rfl) rfl n.n__law_source.gl n.n__law_source.fn.kp (n.bn__law_source) (ja_cons (jv 0) (ja_cons (jv 1) ja_nil))))) (js_cons (js_set sc_law.nd rfl (.inl rfl) (je_call (ok__law_drawing n) (hr.mono (by omega)) (takes_of rfl rfl rfl rfl) rfl n.n__law_drawing.gl n.n__law_drawing.fn.kp (n.bn__law_drawing) (ja_cons (jv 2) (ja_cons je_int (ja_cons je_bl ja_nil))))) (js_cons (js_asg (je_call (ok__law_three n) (hr.mono (by omega)) (takes_of rfl rfl rfl rfl) rfl n.n__law_three.gl n.n__law_three.fn.kp (n.bn__law_three) (ja_cons (jv 2) ja_nil)) (jg_unl rfl (pgs_cons (pg_name (i := 4) sc_law.nd rfl (by first | exact Or.inl rfl | exact Or.inr rfl)) (pgs_cons (pg_name (i := 5) sc_law.nd rfl (by first | exact Or.inl rfl | exact Or.inr rfl)) (pgs_cons (pg_name (i := 6) sc_law.nd rfl (by first | exact Or.inl rfl | exact Or.inr rfl)) pgs_nil))))) (js_cons (js_if (jt_w (jw_or (jt_not (jt_val (je_call (ok__law_one_by_one n) (hr.mono (by omega)) (takes_of rfl rfl rfl rfl) rfl n.n__law_one_by_one.gl n.n__law_one_by_one.fn.kp (n.bn__law_one_by_one) (ja_cons (jv 2) (ja_cons (jv 3) ja_nil))))) (jw_or1 (jt_not (jt_val (je_call (ok__law_ends_right n) (hr.mono (by omega)) (takes_of rfl rfl rfl rfl) rfl n.n__law_ends_right.gl n.n__law_ends_right.fn.kp (n.bn__law_ends_right) (ja_cons (jv 3) (ja_cons (jv 4) ja_nil)))))))) (js_one (js_ret je_bl)) js_nil) (js_one (js_if (jt_not (jt_val (je_call (ok__law_sides_right n) (hr.mono (by omega)) (takes_of rfl rfl rfl rfl) rfl n.n__law_sides_right.gl n.n__law_sides_right.fn.kp (n.bn__law_sides_right) (ja_cons (jv 3) (ja_cons (jv 4) (ja_cons (jv 5) (ja_cons (jv 6) ja_nil))))))) (js_one (js_ret je_bl)) js_nil))))))) (js_one (js_ret je_bl)))
end
def d_is_name : He.DefD := ⟨(("is_name" : Str), none), ("is_name" : Str), ("is_name" : Str), defArgs s_is_name, defBody s_is_name, defScope s_is_name, [], []⟩
def d_is_thing : He.DefD := ⟨(("is_thing" : Str), none), ("is_thing" : Str), ("is_thing" : Str), defArgs s_is_thing, defBody s_is_thing, defScope s_is_thing, [], []⟩
def d_is_group : He.DefD := ⟨(("is_group" : Str), none), ("is_group" : Str), ("is_group" : Str), defArgs s_is_group, defBody s_is_group, defScope s_is_group, [], []⟩
def d_all_things : He.DefD := ⟨(("all_things" : Str), none), ("all_things" : Str), ("all_things" : Str), defArgs s_all_things, defBody s_all_things, defScope s_all_things, [], []⟩
def d_group_names : He.DefD := ⟨(("group_names" : Str), none), ("group_names" : Str), ("group_names" : Str), defArgs s_group_names, defBody s_group_names, defScope s_group_names, [], []⟩
def d_are_items : He.DefD := ⟨(("are_items" : Str), none), ("are_items" : Str), ("are_items" : Str), defArgs s_are_items, defBody s_are_items, defScope s_are_items, [], []⟩
def d_is_right_drawing : He.DefD := ⟨(("is_right_drawing" : Str), none), ("is_right_drawing" : Str), ("is_right_drawing" : Str), defArgs s_is_right_drawing, defBody s_is_right_drawing, defScope s_is_right_drawing, [], []⟩
def d_is_right_command : He.DefD := ⟨(("is_right_command" : Str), none), ("is_right_command" : Str), ("is_right_command" : Str), defArgs s_is_right_command, defBody s_is_right_command, defScope s_is_right_command, [], []⟩
def d_is_right_script : He.DefD := ⟨(("is_right_script" : Str), none), ("is_right_script" : Str), ("is_right_script" : Str), defArgs s_is_right_script, defBody s_is_right_script, defScope s_is_right_script, [], []⟩
def d_name_of : He.DefD := ⟨(("name_of" : Str), none), ("name_of" : Str), ("name_of" : Str), defArgs s_name_of, defBody s_name_of, defScope s_name_of, [], []⟩
def d_way_to : He.DefD := ⟨(("way_to" : Str), none), ("way_to" : Str), ("way_to" : Str), defArgs s_way_to, defBody s_way_to, defScope s_way_to, [], []⟩
def d_row_at : He.DefD := ⟨(("row_at" : Str), none), ("row_at" : Str), ("row_at" : Str), defArgs s_row_at, defBody s_row_at, defScope s_row_at, [], []⟩
def d_with_row : He.DefD := ⟨(("with_row" : Str), none), ("with_row" : Str), ("with_row" : Str), defArgs s_with_row, defBody s_with_row, defScope s_with_row, [], []⟩
def d_need_drawing : He.DefD := ⟨(("need_drawing" : Str), none), ("need_drawing" : Str), ("need_drawing" : Str), defArgs s_need_drawing, defBody s_need_drawing, defScope s_need_drawing, [], []⟩
def d_need_script : He.DefD := ⟨(("need_script" : Str), none), ("need_script" : Str), ("need_script" : Str), defArgs s_need_script, defBody s_need_script, defScope s_need_script, [], []⟩
def d_need_name : He.DefD := ⟨(("need_name" : Str), none), ("need_name" : Str), ("need_name" : Str), defArgs s_need_name, defBody s_need_name, defScope s_need_name, [], []⟩
def d_is_drawing : He.DefD := ⟨(("is_drawing" : Str), none), ("is_drawing" : Str), ("is_drawing" : Str), defArgs s_is_drawing, defBody s_is_drawing, defScope s_is_drawing, [], []⟩
def d_painted : He.DefD := ⟨(("painted" : Str), none), ("painted" : Str), ("painted" : Str), defArgs s_painted, defBody s_painted, defScope s_painted, [], []⟩
def d_place : He.DefD := ⟨(("place" : Str), none), ("place" : Str), ("place" : Str), defArgs s_place, defBody s_place, defScope s_place, [], []⟩
def d_index_in : He.DefD := ⟨(("index_in" : Str), none), ("index_in" : Str), ("index_in" : Str), defArgs s_index_in, defBody s_index_in, defScope s_index_in, [], []⟩
def d_moved : He.DefD := ⟨(("moved" : Str), none), ("moved" : Str), ("moved" : Str), defArgs s_moved, defBody s_moved, defScope s_moved, [], []⟩
def d_alone_in : He.DefD := ⟨(("alone_in" : Str), none), ("alone_in" : Str), ("alone_in" : Str), defArgs s_alone_in, defBody s_alone_in, defScope s_alone_in, [], []⟩
def d_beside_in : He.DefD := ⟨(("beside_in" : Str), none), ("beside_in" : Str), ("beside_in" : Str), defArgs s_beside_in, defBody s_beside_in, defScope s_beside_in, [], []⟩
def d_grouped_in : He.DefD := ⟨(("grouped_in" : Str), none), ("grouped_in" : Str), ("grouped_in" : Str), defArgs s_grouped_in, defBody s_grouped_in, defScope s_grouped_in, [], []⟩
def d_behind : He.DefD := ⟨(("behind" : Str), none), ("behind" : Str), ("behind" : Str), defArgs s_behind, defBody s_behind, defScope s_behind, [], []⟩
def d_drawing_behind : He.DefD := ⟨(("drawing_behind" : Str), none), ("drawing_behind" : Str), ("drawing_behind" : Str), defArgs s_drawing_behind, defBody s_drawing_behind, defScope s_drawing_behind, [], []⟩
def d_arranged : He.DefD := ⟨(("arranged" : Str), none), ("arranged" : Str), ("arranged" : Str), defArgs s_arranged, defBody s_arranged, defScope s_arranged, [], []⟩
def d__law_source : He.DefD := ⟨(("_law_source" : Str), none), ("_law_source" : Str), ("_law_source" : Str), defArgs s__law_source, defBody s__law_source, defScope s__law_source, [], []⟩
def d__law_pick : He.DefD := ⟨(("_law_pick" : Str), none), ("_law_pick" : Str), ("_law_pick" : Str), defArgs s__law_pick, defBody s__law_pick, defScope s__law_pick, [], []⟩
def d__law_chosen : He.DefD := ⟨(("_law_chosen" : Str), none), ("_law_chosen" : Str), ("_law_chosen" : Str), defArgs s__law_chosen, defBody s__law_chosen, defScope s__law_chosen, [], []⟩
def d__law_wide : He.DefD := ⟨(("_law_wide" : Str), none), ("_law_wide" : Str), ("_law_wide" : Str), defArgs s__law_wide, defBody s__law_wide, defScope s__law_wide, [], []⟩
def d__law_whole : He.DefD := ⟨(("_law_whole" : Str), none), ("_law_whole" : Str), ("_law_whole" : Str), defArgs s__law_whole, defBody s__law_whole, defScope s__law_whole, [], []⟩
def d__law_is_name : He.DefD := ⟨(("_law_is_name" : Str), none), ("_law_is_name" : Str), ("_law_is_name" : Str), defArgs s__law_is_name, defBody s__law_is_name, defScope s__law_is_name, [], []⟩
def d__law_ids : He.DefD := ⟨(("_law_ids" : Str), none), ("_law_ids" : Str), ("_law_ids" : Str), defArgs s__law_ids, defBody s__law_ids, defScope s__law_ids, [], []⟩
def d__law_things : He.DefD := ⟨(("_law_things" : Str), none), ("_law_things" : Str), ("_law_things" : Str), defArgs s__law_things, defBody s__law_things, defScope s__law_things, [], []⟩
def d__law_three : He.DefD := ⟨(("_law_three" : Str), none), ("_law_three" : Str), ("_law_three" : Str), defArgs s__law_three, defBody s__law_three, defScope s__law_three, [], []⟩
def d__law_mixed : He.DefD := ⟨(("_law_mixed" : Str), none), ("_law_mixed" : Str), ("_law_mixed" : Str), defArgs s__law_mixed, defBody s__law_mixed, defScope s__law_mixed, [], []⟩
def d__law_drawing : He.DefD := ⟨(("_law_drawing" : Str), none), ("_law_drawing" : Str), ("_law_drawing" : Str), defArgs s__law_drawing, defBody s__law_drawing, defScope s__law_drawing, [], []⟩
def d__law_without : He.DefD := ⟨(("_law_without" : Str), none), ("_law_without" : Str), ("_law_without" : Str), defArgs s__law_without, defBody s__law_without, defScope s__law_without, [], []⟩
def d__law_within : He.DefD := ⟨(("_law_within" : Str), none), ("_law_within" : Str), ("_law_within" : Str), defArgs s__law_within, defBody s__law_within, defScope s__law_within, [], []⟩
def d__law_one_by_one : He.DefD := ⟨(("_law_one_by_one" : Str), none), ("_law_one_by_one" : Str), ("_law_one_by_one" : Str), defArgs s__law_one_by_one, defBody s__law_one_by_one, defScope s__law_one_by_one, [], []⟩
def d__law_ends_right : He.DefD := ⟨(("_law_ends_right" : Str), none), ("_law_ends_right" : Str), ("_law_ends_right" : Str), defArgs s__law_ends_right, defBody s__law_ends_right, defScope s__law_ends_right, [], []⟩
def d__law_sides_right : He.DefD := ⟨(("_law_sides_right" : Str), none), ("_law_sides_right" : Str), ("_law_sides_right" : Str), defArgs s__law_sides_right, defBody s__law_sides_right, defScope s__law_sides_right, [], []⟩
def d_law : He.DefD := ⟨(("law" : Str), none), ("law" : Str), ("law" : Str), defArgs s_law, defBody s_law, defScope s_law, [], []⟩
def fn : List He.DefD := [d_is_name, d_is_thing, d_is_group, d_all_things, d_group_names, d_are_items, d_is_right_drawing, d_is_right_command, d_is_right_script, d_name_of, d_way_to, d_row_at, d_with_row, d_need_drawing, d_need_script, d_need_name, d_is_drawing, d_painted, d_place, d_index_in, d_moved, d_alone_in, d_beside_in, d_grouped_in, d_behind, d_drawing_behind, d_arranged, d__law_source, d__law_pick, d__law_chosen, d__law_wide, d__law_whole, d__law_is_name, d__law_ids, d__law_things, d__law_three, d__law_mixed, d__law_drawing, d__law_without, d__law_within, d__law_one_by_one, d__law_ends_right, d__law_sides_right, d_law]
def glos : List Str := [("is_name" : Str), ("is_thing" : Str), ("is_group" : Str), ("all_things" : Str), ("group_names" : Str), ("are_items" : Str), ("is_right_drawing" : Str), ("is_right_command" : Str), ("is_right_script" : Str), ("name_of" : Str), ("way_to" : Str), ("row_at" : Str), ("with_row" : Str), ("need_drawing" : Str), ("need_script" : Str), ("need_name" : Str), ("is_drawing" : Str), ("painted" : Str), ("place" : Str), ("index_in" : Str), ("moved" : Str), ("alone_in" : Str), ("beside_in" : Str), ("grouped_in" : Str), ("behind" : Str), ("drawing_behind" : Str), ("arranged" : Str), ("_law_source" : Str), ("_law_pick" : Str), ("_law_chosen" : Str), ("_law_wide" : Str), ("_law_whole" : Str), ("_law_is_name" : Str), ("_law_ids" : Str), ("_law_things" : Str), ("_law_three" : Str), ("_law_mixed" : Str), ("_law_drawing" : Str), ("_law_without" : Str), ("_law_within" : Str), ("_law_one_by_one" : Str), ("_law_ends_right" : Str), ("_law_sides_right" : Str), ("law" : Str)]
def frees : List Str := [("all" : Str), ("bool" : Str), ("enumerate" : Str), ("int" : Str), ("isinstance" : Str), ("len" : Str), ("list" : Str), ("max" : Str), ("min" : Str), ("range" : Str), ("set" : Str), ("str" : Str), ("tuple" : Str)]
def lits : List (Str × PyData) := [(("NAMES" : Str), (.tuple [(.str ("a" : Str)), (.str ("b" : Str)), (.str ("c" : Str))])), (("MOST_NUMBER" : Str), (.int 99)), (("MOST_THINGS" : Str), (.int 40)), (("ALONE" : Str), (.tuple [(.str ("front" : Str)), (.str ("back" : Str)), (.str ("up" : Str)), (.str ("down" : Str)), (.str ("ungroup" : Str))])), (("BESIDE" : Str), (.tuple [(.str ("above" : Str)), (.str ("below" : Str))])), (("MOST_COMMANDS" : Str), (.int 4))]
def pr (K : PySem.W.Frag) : Bool := (glos.all fun x => (He.Fa.glo x).ok K) && ((frees.all fun x => (He.Fa.free x).ok K) && ((lits.all fun p => litB K p.1 p.2) && ((excs.all fun x => (He.Fa.glo x).ok K && (He.Fa.exc x).ok K) && excs.all fun x => excs.all fun y => decide (PySem.W.exmOne K (.ref (He.ga K x)) (.ref (He.ga K y)) = some (exSub x y)))))
abbrev R : PySem.W.OpenRow := PySem.W.OpenLaw.row PySem.Challenge.rw_toparranged_k12_whole_what_commands_leav
abbrev hk : PySem.W.Hook := hookP 4 pr fn
def ob (s : PySem.W.SharedT) : He.AlD := obsPG 4 pr fn (HandSHeadRun.getT s)
theorem ob_eq (s : PySem.W.SharedT) : ob s = hk.obs s.abs := obsPG_eq (HandSHeadRun.getT_eq s)
theorem names {K : PySem.W.Frag} {h : Heap} {mg : Str → Option Value} (X : K.In h) (G : h.Ns mainGlobals mg) (c : SaysP pr fn K) : Nonempty (Names K mg (He.ga K)) := by
  obtain ⟨c1, c2⟩ := Bool.and_eq_true_iff.mp c.chk
  obtain ⟨c2, c3⟩ := Bool.and_eq_true_iff.mp c2
  obtain ⟨c3, c4⟩ := Bool.and_eq_true_iff.mp c3
  obtain ⟨c4, c5⟩ := Bool.and_eq_true_iff.mp c4
  have hx : ∀ x, x ∈ excs → ExcN K mg (He.ga K) x := fun x hx => excN_of X G (Bool.and_eq_true_iff.mp (List.all_eq_true.mp c4 x hx)).1 (Bool.and_eq_true_iff.mp (List.all_eq_true.mp c4 x hx)).2
  have hm : ∀ x ∈ excs, ∀ y ∈ excs, PySem.W.exmOne K (.ref (He.ga K x)) (.ref (He.ga K y)) = some (exSub x y) := fun x hx y hy => of_decide_eq_true (List.all_eq_true.mp (List.all_eq_true.mp c5 x hx) y hy)
  have hg : ∀ x, x ∈ glos → mg x = some (.ref (He.ga K x)) := fun x hx => He.glo_ok X G (List.all_eq_true.mp c1 x hx)
  have hf : ∀ x, x ∈ frees → mg x = none := fun x hx => He.free_ok X G (List.all_eq_true.mp c2 x hx)
  have hl : ∀ p, p ∈ lits → Nonempty (Cst K mg p.1 p.2) := fun p hp => lit_ok X G (List.all_eq_true.mp c3 p hp)
  obtain ⟨fd0, F0⟩ := c.def_ 0 (d := d_is_name) rfl
  obtain ⟨fd1, F1⟩ := c.def_ 1 (d := d_is_thing) rfl
  obtain ⟨fd2, F2⟩ := c.def_ 2 (d := d_is_group) rfl
  obtain ⟨fd3, F3⟩ := c.def_ 3 (d := d_all_things) rfl
  obtain ⟨fd4, F4⟩ := c.def_ 4 (d := d_group_names) rfl
  obtain ⟨fd5, F5⟩ := c.def_ 5 (d := d_are_items) rfl
  obtain ⟨fd6, F6⟩ := c.def_ 6 (d := d_is_right_drawing) rfl
  obtain ⟨fd7, F7⟩ := c.def_ 7 (d := d_is_right_command) rfl
  obtain ⟨fd8, F8⟩ := c.def_ 8 (d := d_is_right_script) rfl
  obtain ⟨fd9, F9⟩ := c.def_ 9 (d := d_name_of) rfl
  obtain ⟨fd10, F10⟩ := c.def_ 10 (d := d_way_to) rfl
  obtain ⟨fd11, F11⟩ := c.def_ 11 (d := d_row_at) rfl
  obtain ⟨fd12, F12⟩ := c.def_ 12 (d := d_with_row) rfl
  obtain ⟨fd13, F13⟩ := c.def_ 13 (d := d_need_drawing) rfl
  obtain ⟨fd14, F14⟩ := c.def_ 14 (d := d_need_script) rfl
  obtain ⟨fd15, F15⟩ := c.def_ 15 (d := d_need_name) rfl
  obtain ⟨fd16, F16⟩ := c.def_ 16 (d := d_is_drawing) rfl
  obtain ⟨fd17, F17⟩ := c.def_ 17 (d := d_painted) rfl
  obtain ⟨fd18, F18⟩ := c.def_ 18 (d := d_place) rfl
  obtain ⟨fd19, F19⟩ := c.def_ 19 (d := d_index_in) rfl
  obtain ⟨fd20, F20⟩ := c.def_ 20 (d := d_moved) rfl
  obtain ⟨fd21, F21⟩ := c.def_ 21 (d := d_alone_in) rfl
  obtain ⟨fd22, F22⟩ := c.def_ 22 (d := d_beside_in) rfl
  obtain ⟨fd23, F23⟩ := c.def_ 23 (d := d_grouped_in) rfl
  obtain ⟨fd24, F24⟩ := c.def_ 24 (d := d_behind) rfl
  obtain ⟨fd25, F25⟩ := c.def_ 25 (d := d_drawing_behind) rfl
  obtain ⟨fd26, F26⟩ := c.def_ 26 (d := d_arranged) rfl
  obtain ⟨fd27, F27⟩ := c.def_ 27 (d := d__law_source) rfl
  obtain ⟨fd28, F28⟩ := c.def_ 28 (d := d__law_pick) rfl
  obtain ⟨fd29, F29⟩ := c.def_ 29 (d := d__law_chosen) rfl
  obtain ⟨fd30, F30⟩ := c.def_ 30 (d := d__law_wide) rfl
  obtain ⟨fd31, F31⟩ := c.def_ 31 (d := d__law_whole) rfl
  obtain ⟨fd32, F32⟩ := c.def_ 32 (d := d__law_is_name) rfl
  obtain ⟨fd33, F33⟩ := c.def_ 33 (d := d__law_ids) rfl
  obtain ⟨fd34, F34⟩ := c.def_ 34 (d := d__law_things) rfl
  obtain ⟨fd35, F35⟩ := c.def_ 35 (d := d__law_three) rfl
  obtain ⟨fd36, F36⟩ := c.def_ 36 (d := d__law_mixed) rfl
  obtain ⟨fd37, F37⟩ := c.def_ 37 (d := d__law_drawing) rfl
  obtain ⟨fd38, F38⟩ := c.def_ 38 (d := d__law_without) rfl
  obtain ⟨fd39, F39⟩ := c.def_ 39 (d := d__law_within) rfl
  obtain ⟨fd40, F40⟩ := c.def_ 40 (d := d__law_one_by_one) rfl
  obtain ⟨fd41, F41⟩ := c.def_ 41 (d := d__law_ends_right) rfl
  obtain ⟨fd42, F42⟩ := c.def_ 42 (d := d__law_sides_right) rfl
  obtain ⟨fd43, F43⟩ := c.def_ 43 (d := d_law) rfl
  obtain ⟨k0⟩ := hl (("NAMES" : Str), (.tuple [(.str ("a" : Str)), (.str ("b" : Str)), (.str ("c" : Str))])) (List.mem_of_getElem? (i := 0) rfl)
  obtain ⟨k1⟩ := hl (("MOST_NUMBER" : Str), (.int 99)) (List.mem_of_getElem? (i := 1) rfl)
  obtain ⟨k2⟩ := hl (("MOST_THINGS" : Str), (.int 40)) (List.mem_of_getElem? (i := 2) rfl)
  obtain ⟨k3⟩ := hl (("ALONE" : Str), (.tuple [(.str ("front" : Str)), (.str ("back" : Str)), (.str ("up" : Str)), (.str ("down" : Str)), (.str ("ungroup" : Str))])) (List.mem_of_getElem? (i := 3) rfl)
  obtain ⟨k4⟩ := hl (("BESIDE" : Str), (.tuple [(.str ("above" : Str)), (.str ("below" : Str))])) (List.mem_of_getElem? (i := 4) rfl)
  obtain ⟨k5⟩ := hl (("MOST_COMMANDS" : Str), (.int 4)) (List.mem_of_getElem? (i := 5) rfl)
  exact ⟨⟨⟨_, fd0, F0, hg _ (List.mem_of_getElem? (i := 0) rfl)⟩, ⟨_, fd1, F1, hg _ (List.mem_of_getElem? (i := 1) rfl)⟩, ⟨_, fd2, F2, hg _ (List.mem_of_getElem? (i := 2) rfl)⟩, ⟨_, fd3, F3, hg _ (List.mem_of_getElem? (i := 3) rfl)⟩, ⟨_, fd4, F4, hg _ (List.mem_of_getElem? (i := 4) rfl)⟩, ⟨_, fd5, F5, hg _ (List.mem_of_getElem? (i := 5) rfl)⟩, ⟨_, fd6, F6, hg _ (List.mem_of_getElem? (i := 6) rfl)⟩, ⟨_, fd7, F7, hg _ (List.mem_of_getElem? (i := 7) rfl)⟩, ⟨_, fd8, F8, hg _ (List.mem_of_getElem? (i := 8) rfl)⟩, ⟨_, fd9, F9, hg _ (List.mem_of_getElem? (i := 9) rfl)⟩, ⟨_, fd10, F10, hg _ (List.mem_of_getElem? (i := 10) rfl)⟩, ⟨_, fd11, F11, hg _ (List.mem_of_getElem? (i := 11) rfl)⟩, ⟨_, fd12, F12, hg _ (List.mem_of_getElem? (i := 12) rfl)⟩, ⟨_, fd13, F13, hg _ (List.mem_of_getElem? (i := 13) rfl)⟩, ⟨_, fd14, F14, hg _ (List.mem_of_getElem? (i := 14) rfl)⟩, ⟨_, fd15, F15, hg _ (List.mem_of_getElem? (i := 15) rfl)⟩, ⟨_, fd16, F16, hg _ (List.mem_of_getElem? (i := 16) rfl)⟩, ⟨_, fd17, F17, hg _ (List.mem_of_getElem? (i := 17) rfl)⟩, ⟨_, fd18, F18, hg _ (List.mem_of_getElem? (i := 18) rfl)⟩, ⟨_, fd19, F19, hg _ (List.mem_of_getElem? (i := 19) rfl)⟩, ⟨_, fd20, F20, hg _ (List.mem_of_getElem? (i := 20) rfl)⟩, ⟨_, fd21, F21, hg _ (List.mem_of_getElem? (i := 21) rfl)⟩, ⟨_, fd22, F22, hg _ (List.mem_of_getElem? (i := 22) rfl)⟩, ⟨_, fd23, F23, hg _ (List.mem_of_getElem? (i := 23) rfl)⟩, ⟨_, fd24, F24, hg _ (List.mem_of_getElem? (i := 24) rfl)⟩, ⟨_, fd25, F25, hg _ (List.mem_of_getElem? (i := 25) rfl)⟩, ⟨_, fd26, F26, hg _ (List.mem_of_getElem? (i := 26) rfl)⟩, ⟨_, fd27, F27, hg _ (List.mem_of_getElem? (i := 27) rfl)⟩, ⟨_, fd28, F28, hg _ (List.mem_of_getElem? (i := 28) rfl)⟩, ⟨_, fd29, F29, hg _ (List.mem_of_getElem? (i := 29) rfl)⟩, ⟨_, fd30, F30, hg _ (List.mem_of_getElem? (i := 30) rfl)⟩, ⟨_, fd31, F31, hg _ (List.mem_of_getElem? (i := 31) rfl)⟩, ⟨_, fd32, F32, hg _ (List.mem_of_getElem? (i := 32) rfl)⟩, ⟨_, fd33, F33, hg _ (List.mem_of_getElem? (i := 33) rfl)⟩, ⟨_, fd34, F34, hg _ (List.mem_of_getElem? (i := 34) rfl)⟩, ⟨_, fd35, F35, hg _ (List.mem_of_getElem? (i := 35) rfl)⟩, ⟨_, fd36, F36, hg _ (List.mem_of_getElem? (i := 36) rfl)⟩, ⟨_, fd37, F37, hg _ (List.mem_of_getElem? (i := 37) rfl)⟩, ⟨_, fd38, F38, hg _ (List.mem_of_getElem? (i := 38) rfl)⟩, ⟨_, fd39, F39, hg _ (List.mem_of_getElem? (i := 39) rfl)⟩, ⟨_, fd40, F40, hg _ (List.mem_of_getElem? (i := 40) rfl)⟩, ⟨_, fd41, F41, hg _ (List.mem_of_getElem? (i := 41) rfl)⟩, ⟨_, fd42, F42, hg _ (List.mem_of_getElem? (i := 42) rfl)⟩, ⟨_, fd43, F43, hg _ (List.mem_of_getElem? (i := 43) rfl)⟩, k0, k1, k2, k3, k4, k5, hx _ (List.mem_of_getElem? (i := 0) rfl), hx _ (List.mem_of_getElem? (i := 1) rfl), hx _ (List.mem_of_getElem? (i := 2) rfl), hm, hf _ (List.mem_of_getElem? (i := 0) rfl), hf _ (List.mem_of_getElem? (i := 1) rfl), hf _ (List.mem_of_getElem? (i := 2) rfl), hf _ (List.mem_of_getElem? (i := 3) rfl), hf _ (List.mem_of_getElem? (i := 4) rfl), hf _ (List.mem_of_getElem? (i := 5) rfl), hf _ (List.mem_of_getElem? (i := 6) rfl), hf _ (List.mem_of_getElem? (i := 7) rfl), hf _ (List.mem_of_getElem? (i := 8) rfl), hf _ (List.mem_of_getElem? (i := 9) rfl), hf _ (List.mem_of_getElem? (i := 10) rfl), hf _ (List.mem_of_getElem? (i := 11) rfl), hf _ (List.mem_of_getElem? (i := 12) rfl)⟩⟩
def loose : List Str := [("__name__" : Str), ("ArrangeError" : Str), ("InvalidDrawing" : Str), ("InvalidScript" : Str), ("InvalidName" : Str), ("NAMES" : Str), ("MOST_NUMBER" : Str), ("MOST_THINGS" : Str), ("MOST_COMMANDS" : Str), ("ALONE" : Str), ("BESIDE" : Str), ("is_name" : Str), ("is_thing" : Str), ("is_group" : Str), ("all_things" : Str), ("group_names" : Str), ("are_items" : Str), ("is_right_drawing" : Str), ("is_right_command" : Str), ("is_right_script" : Str), ("name_of" : Str), ("way_to" : Str), ("row_at" : Str), ("with_row" : Str), ("need_drawing" : Str), ("need_script" : Str), ("need_name" : Str), ("is_drawing" : Str), ("painted" : Str), ("place" : Str), ("index_in" : Str), ("moved" : Str), ("alone_in" : Str), ("beside_in" : Str), ("grouped_in" : Str), ("behind" : Str), ("drawing_behind" : Str), ("arranged" : Str), ("_law_source" : Str), ("_law_pick" : Str), ("_law_chosen" : Str), ("_law_wide" : Str), ("_law_whole" : Str), ("_law_is_name" : Str), ("_law_ids" : Str), ("_law_things" : Str), ("_law_three" : Str), ("_law_mixed" : Str), ("_law_drawing" : Str), ("_law_without" : Str), ("_law_within" : Str), ("_law_one_by_one" : Str), ("_law_ends_right" : Str), ("_law_sides_right" : Str)]
theorem run (w : World) : HandSHeadRun.RunEq R (PySem.W.view R.prog [57]) hk ob 6000 loose w := by
  intro os
  kernel_rfl
theorem fin (hL : ∀ ns : List Int, ns.length ≤ 63 → ∃ S', F_law_k12 [.scr ns] [] = .ok (.d (.bool true)) S') : PySem.Challenge.rw_toparranged_k12_whole_what_commands_leav.Holds := by
  open PySem PySem.W PySem.Calls PyProof.Rows in
  w_on; o_law
  refine HandSHeadRun.head_any (r := PySem.W.OpenLaw.row PySem.Challenge.rw_toparranged_k12_whole_what_commands_leav) (q := PySem.W.view (PySem.W.OpenLaw.row PySem.Challenge.rw_toparranged_k12_whole_what_commands_leav).prog [57]) (H := hk) (ob := ob) (M := 6000) (loose := loose) (d := HandSHeadRun.topDef (PySem.W.OpenLaw.row PySem.Challenge.rw_toparranged_k12_whole_what_commands_leav).prog 57) (kwd := []) ob_eq
    (by kernel_rfl) (fun s => by kernel_rfl) run (by kernel_rfl) (by kernel_rfl) (by kernel_rfl) (by rfl) (by first | assumption | decide +kernel) (by decide +kernel) ⟨rfl, rfl, rfl, rfl, rfl, by decide +kernel⟩ ?hw ?hc
  case hw => w_witness2
  case hc =>
    refine L2.walk_ofE (l := PySem.Challenge.rw_toparranged_k12_whole_what_commands_leav) (n := 63) (k := 82) (x := "script") (CX := CXw PySem.Challenge.rw_toparranged_k12_whole_what_commands_leav.prog) rfl (by decide) (by kernel_rfl) ⟨rfl, by decide, by decide⟩ ?F cxw_no
    intro w mg fa h Y G hmg0
    obtain ⟨K, KX, c⟩ := Y
    have hmg : mg ("law" : PySem.Str) = some (.ref fa) := by
      have e : (HandSHeadRun.topDef (PySem.W.OpenLaw.row PySem.Challenge.rw_toparranged_k12_whole_what_commands_leav).prog 57).name = ("law" : PySem.Str) := by kernel_rfl
      rw [← e]
      exact hmg0
    obtain ⟨n⟩ := names KX G c
    have e := hmg.symm.trans n.n_law.gl
    injection e with e
    injection e with e
    subst e
    have b := FunD.bindsA (ps := ["script"]) n.n_law.fn fun _ _ _ _ _ _ us hl => match us, hl with | [_], _ => rfl
    exact ⟨K, n.n_law.fd, spD K (He.ga K) 1 F_law_k12, KX, fun s v => b s [v] rfl, fun H a ns hl _ hS => sp_law hL H a ns hl hS, fun base _ _ => jf_w (ok_law n)⟩
end K12
theorem PySem.Challenge.cw_toparranged_k12_whole_what_commands_leav_holds : PySem.Challenge.rw_toparranged_k12_whole_what_commands_leav.Holds := by
  exact K12.fin P.k12
