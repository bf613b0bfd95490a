import PyProof.Rows.All
import Wide.All
import OpenK.AllK
import Wide.FinOn
import HandS.ForMost
import HandS.ExcCtx
import HandS.ForExc
import HandS.IsInst
import HandS.ExcIs
import HandS.Style
import HandS.Flow
import HandS.Wide
import HandS.RevTup
import HandS.Rev
import HandS.Conv
import HandS.More
import HandS.Deep
import HandS.TupAny
import HandS.Zip
import HandS.Text
import HandS.Small
import HandS.Iter
import HandS.TryOnly
import HandS.HotCalls
import HandS.Comp
import HandS.WordsExc
import HandS.Walk
import PySem.Challenge.RW_hushlink_k60_names_of_peers
import HandS.WordsDict
import KE.KStateDown
import HandS.Defaults
import HandS.Head0
import HandS.Head1
import HandS.Head2
import HandS.HeadEnd
import HandS.HeadHook1
import HandS.HeadHook2
set_option Elab.async false
set_option linter.all false
set_option maxRecDepth 100000
set_option maxHeartbeats 4000000
namespace Hk
open PySem PySem.Spec PyProof.Rows
open L2 hiding Takes XE CX takes_of passes_call MkP PMk ps_raise mk_of ps_try_as passAt pmk_own
open L2N (Takes XE CX takes_of passes_call MkP PMk ps_raise mk_of ps_try_as passAt pmk_own)

/-! ## module names -/
def GV (mg : Str → Option Value) (x : Str) (v : V) : Prop := ∃ u, mg x = some u ∧ RelV v u
theorem gv_ref {mg : Str → Option Value} {x : Str} {a : Addr} (h : mg x = some (.ref a)) : GV mg x (.ref a) := ⟨_, h, rfl⟩
theorem gv_int {mg : Str → Option Value} {x : Str} {i : Int} {t : Tok} (h : mg x = some (.int i t)) : GV mg x (.int i) := ⟨_, h, ⟨_, rfl⟩⟩
theorem gv_str {mg : Str → Option Value} {x : Str} {i : Str} {t : Tok} (h : mg x = some (.str i t)) : GV mg x (.str i) := ⟨_, h, ⟨_, rfl⟩⟩
theorem pe_globV {X : Cx} {x : Str} {v : V} {pos : Pos} (h : GV X.mg x v) (hg : Gl X x := by rfl) (hd : (x == ("__debug__" : Str)) = false := by decide) : PE X (.Name x pos) (tC v) := by
  obtain ⟨u, hm, r⟩ := h
  exact pe_glob hg hm r hd

/-! ## calls of own defs: the address stays hidden -/
def GF (P : Program) (w : World) (K : PySem.W.Frag) (mg : Str → Option Value) (base : Heap) (x : Str) (k : Nat) (ps : List Str) (sp : Sp) : Prop :=
  ∃ (f : Addr) (fd : FuncData), mg x = some (.ref f) ∧ PySem.W.keepIn K (.ref f) = true ∧ Binds K fd ps [] ∧ FnOk P w K mg base (L2N.CX P w) k f fd ps sp
def GM (P : Program) (w : World) (K : PySem.W.Frag) (mg : Str → Option Value) (base : Heap) (C : Addr) (m : Str) (k : Nat) (ps : List Str) (sp : Sp) : Prop :=
  ∃ (f : Addr) (fd : FuncData), Meth K C m f ∧ Binds K fd ps [] ∧ FnOk P w K mg base (L2N.CX P w) k f fd ps sp
def GC (P : Program) (w : World) (K : PySem.W.Frag) (mg : Str → Option Value) (base : Heap) (x : Str) (C : Addr) (k : Nat) (ps : List Str) (sp : Sp) : Prop :=
  mg x = some (.ref C) ∧ ∃ (f : Addr) (fd : FuncData), Mk K C f ∧ Binds K fd ps [] ∧ FnOk P w K mg base (L2N.CX P w) k f fd ps sp

section
variable {X : Cx} {k : Nat} {f C : Addr} {fd : FuncData} {ps : List Str} {sp : Sp} {W : WX} {x m : Str} {p pos apos : Pos} {e o : Expr} {es : List Expr} {ta : TE} {t : TA}
theorem pe_callG (G : GF X.prog X.w X.K X.mg X.base x k ps sp) (hr : Room k X.A) (tk : Takes X W) (ha : PA X (e :: es) t) (hg : Gl X x := by rfl) (hdb : (x == ("__debug__" : Str)) = false := by decide)
    (he : starEach (e :: es) X.env = (false, eval e X.env) :: starEach es X.env := by rfl) (hpl : (backTo pos (starEach es X.env)).any (·.1) = false := by rfl) : PE X (.Call (.Name x p) (e :: es) [] pos) (tCallS sp (WE W) t) := by
  obtain ⟨f, fd, hm, hk, hb, F⟩ := G
  exact pe_callS F hr hg hm hk hb (fun σ => passAt tk σ) ha hdb he hpl
theorem pe_callG0 (G : GF X.prog X.w X.K X.mg X.base x k ps sp) (hr : Room k X.A) (tk : Takes X W) (hg : Gl X x := by rfl) (hdb : (x == ("__debug__" : Str)) = false := by decide) : PE X (.Call (.Name x p) [] [] pos) (tCallS sp (WE W) tNil) := by
  obtain ⟨f, fd, hm, hk, hb, F⟩ := G
  refine ⟨fun pins s σ H Q I h => ?_⟩
  refine wpAny_Call_Name_kw (ld_glob I hg hm ?_ hdb)
  exact PySem.W.callWith_K0 I.kIn hk (run_fnS (us := []) F hr hb (passAt tk σ) I .nil h)
/-- o.m(..): the object, its class, then the arguments, then the promise -/
def tMethU (C : Addr) (m : Str) (sp : Sp) (E : L2.St → XK) (ta : TE) (t : TA) : TE := fun σ H Q => ta σ H fun x H1 => ∃ a dx fs, x = .ref a ∧ H1 a = some (.ins C dx fs) ∧ fs.lookup m = none ∧ t σ H1 fun vs H2 => sp (x :: vs) H2 Q (E σ)
theorem pe_methG {pl : Sem Bool} (he : PE X o ta) (c : Cls X.K C) (G : GM X.prog X.w X.K X.mg X.base C m k ps sp) (hr : Room k X.A) (tk : Takes X W) (ha : PA X (e :: es) t)
    (hst : starEach (e :: es) X.env = (false, eval e X.env) :: starEach es X.env := by rfl) (hpl : (backTo pos (starEach es X.env)).any (·.1) = false := by rfl)
    (ht : eval (.Call (.Attribute o m apos) (e :: es) [] pos) X.env = (do
      let ov ← eval o X.env
      standAt apos.atName
      let (f, first) ← holding [ov] (getMethod ov m pl)
      callWith pos f first (backTo pos (starEach (e :: es) X.env)) (backToKw pos (keywordEach [] X.env))) := by rfl) :
    PE X (.Call (.Attribute o m apos) (e :: es) [] pos) (tMethU C m sp (WE W) ta t) := by
  obtain ⟨f, fd, hm, hb, F⟩ := G
  refine ⟨fun pins s σ H Q I h => ?_⟩
  refine PySem.W.methodCall_KW (pl := pl) (thn (he.run pins s σ H _ I h) fun u s1 ⟨x, H1, I1, rx, a, dx, fs, ex, ea, l, q⟩ => ?_) ht
  subst ex
  obtain rfl : u = Value.ref a := rx
  refine getmeth_ok I1 ea c hm l ?_
  refine PySem.W.callWith_K (first := [.ref a]) (h₀ := X.base) I.ok.mod.kin hm.kp (thn (ha.run pos pins s1 σ H1 _ I1 q) fun us s2 ⟨vs, H2, I2, r, q2⟩ => ⟨I2.kIn, ?_⟩) hst hpl
  exact run_fnS (us := .ref a :: us) (vs := .ref a :: vs) F hr hb (passAt tk σ) I2 (.cons rfl r) q2
theorem pe_methG0 {pl : Sem Bool} (he : PE X o ta) (c : Cls X.K C) (G : GM X.prog X.w X.K X.mg X.base C m k ps sp) (hr : Room k X.A) (tk : Takes X W)
    (ht : eval (.Call (.Attribute o m apos) [] [] pos) X.env = (do
      let ov ← eval o X.env
      standAt apos.atName
      let (f, first) ← holding [ov] (getMethod ov m pl)
      callWith pos f first (backTo pos (starEach [] X.env)) (backToKw pos (keywordEach [] X.env))) := by rfl) :
    PE X (.Call (.Attribute o m apos) [] [] pos) (tMethU C m sp (WE W) ta tNil) := by
  obtain ⟨f, fd, hm, hb, F⟩ := G
  refine ⟨fun pins s σ H Q I h => ?_⟩
  refine PySem.W.methodCall_KW (pl := pl) (thn (he.run pins s σ H _ I h) fun u s1 ⟨x, H1, I1, rx, a, dx, fs, ex, ea, l, q⟩ => ?_) ht
  subst ex
  obtain rfl : u = Value.ref a := rx
  refine getmeth_ok I1 ea c hm l ?_
  exact PySem.W.callWith_K0 (first := [.ref a]) I1.kIn hm.kp (run_fnS (us := [.ref a]) (vs := [.ref a]) F hr hb (passAt tk σ) I1 (.cons rfl .nil) q)

/-- the making of an instance, what is raised wished for at the slots -/
theorem run_makeS {pins : List (Addr × Obj)} {σ : L2.St} {H : Hp} {s : Shared} {Q : VK} {us : List Value} {vs : List V} {E : L2.St → XK} (M : Mk X.K C f) (F : FnOk X.prog X.w X.K X.mg X.base (L2N.CX X.prog X.w) k f fd ps sp) (hr : Room (k + 1) X.A) (hb : Binds X.K fd ps [])
    (hx : PassesAt (L2N.CX X.prog X.w) X σ (E σ)) (I : Inv X pins σ H s) (r : Vals vs us)
    (h : ∀ x dx, H x = none → H dx = none → dx ≠ x → sp (.ref x :: vs) (upd (upd H dx (.own x)) x (.ins C dx [])) (fun v H2 => v = .non ∧ Q (.ref x) H2) (E σ)) :
    wpAny (model X.prog X.w) X.A (call (.ref C) us) (EP X pins σ Q) X.xe s := by
  have hq := h (s.heap.objs.size + 1) s.heap.objs.size (I.hok.fresh (Nat.le_succ _)) (I.hok.fresh (Nat.le_refl _)) (Nat.ne_of_lt (Nat.lt_succ_self _))
  have I2 := Inv.made (C := C) I
  have r2 : Vals (V.ref (s.heap.objs.size + 1) :: vs) (Value.ref (s.heap.objs.size + 1) :: us) := .cons rfl r
  have hl : (Value.ref (s.heap.objs.size + 1) :: us).length = ps.length := by
    have e := r2.length
    rw [F.len _ _ _ _ hq] at e
    exact e.symm
  have b := hb ⟨_, s.gens, s.drawn, s.toks, s.os⟩ (Value.ref (s.heap.objs.size + 1) :: us) I2.kIn (by rw [List.append_nil]; exact hl)
  rw [List.append_nil] at b
  refine wpAny_call (make_map (f := f) I.kIn M.makes M.init (beq_iff_eq.mp M.fn) (codeAny_mono (F.run _ X.stack _ _ ⟨Value.ref (s.heap.objs.size + 1) :: us, []⟩ (Value.ref (s.heap.objs.size + 1) :: us) _ _ (E σ) (hr.make C us [])
    (I2.env0.make C us []) b r2 hq) fun r s' hq' => ?_))
  cases r with
  | error e => exact hx pins _ _ e s' I2 hq'
  | ok fl =>
    cases fl with
    | ret u =>
      obtain ⟨v, H', I3, rv, ev, q3⟩ := I2.after hq'
      subst ev
      exact ⟨rv, ⟨V.ref (s.heap.objs.size + 1), H', I3, rfl, q3⟩⟩
    | next => exact False.elim hq'
    | brk => exact False.elim hq'
    | cont => exact False.elim hq'
def tMakeS (C : Addr) (sp : Sp) (E : L2.St → XK) (t : TA) : TE := fun σ H Q => t σ H fun vs H1 => ∀ x dx, H1 x = none → H1 dx = none → dx ≠ x →
  sp (.ref x :: vs) (upd (upd H1 dx (.own x)) x (.ins C dx [])) (fun v H2 => v = .non ∧ Q (.ref x) H2) (E σ)
theorem pe_makeG (G : GC X.prog X.w X.K X.mg X.base x C k ps sp) (hr : Room (k + 1) X.A) (tk : Takes X W) (ha : PA X (e :: es) t) (hg : Gl X x := by rfl) (hdb : (x == ("__debug__" : Str)) = false := by decide)
    (he : starEach (e :: es) X.env = (false, eval e X.env) :: starEach es X.env := by rfl) (hpl : (backTo pos (starEach es X.env)).any (·.1) = false := by rfl) : PE X (.Call (.Name x p) (e :: es) [] pos) (tMakeS C sp (WE W) t) := by
  obtain ⟨hm, f, fd, M, hb, F⟩ := G
  refine ⟨fun pins s σ H Q I h => ?_⟩
  refine wpAny_Call_Name_kw (ld_glob I hg hm ?_ hdb)
  refine PySem.W.callWith_K (h₀ := X.base) I.ok.mod.kin M.kp (thn (ha.run pos pins s σ H _ I h) fun us s1 ⟨vs, H1, I1, r, q⟩ => ⟨I1.kIn, ?_⟩) he hpl
  exact run_makeS M F hr hb (passAt tk σ) I1 r q
theorem pe_makeG0 (G : GC X.prog X.w X.K X.mg X.base x C k ps sp) (hr : Room (k + 1) X.A) (tk : Takes X W) (hg : Gl X x := by rfl) (hdb : (x == ("__debug__" : Str)) = false := by decide) :
    PE X (.Call (.Name x p) [] [] pos) (tMakeS C sp (WE W) tNil) := by
  obtain ⟨hm, f, fd, M, hb, F⟩ := G
  refine ⟨fun pins s σ H Q I h => ?_⟩
  refine wpAny_Call_Name_kw (ld_glob I hg hm ?_ hdb)
  exact PySem.W.callWith_K0 I.kIn M.kp (run_makeS (us := []) M F hr hb (passAt tk σ) I .nil h)
end
/-- isinstance of the error that the suite holds, whatever its class -/
def rIsE2 (K : PySem.W.Frag) (a : Addr) (cls : Value) (d : Option Addr) : List V → Hp → VK → Prop := fun xs H Q => ∃ D, cls = .ref D ∧ d = none ∧ ExcC K D ∧ rIsE K D a xs H Q
theorem call_isE2 {X : Cx} {a : Addr} {cls : Value} {d : Option Addr} {oe : Obj} {pn : List (Addr × Obj)} (hz : Zc cls d oe) (hf : ∃ vs, oe.data = .fields vs) : CallR (X.suite a ((a, oe) :: pn)) (.builtin "isinstance") (rIsE2 X.K a cls d) := by
  intro pins s σ H xs us Q I r h
  obtain ⟨D, rfl, rfl, C, h⟩ := h
  exact call_isE C hz hf pins s σ H xs us Q I r h

/-! ## the heap as a list of what is known -/
structure Wd (B : Hp) (L : List (Addr × HO)) (H : Hp) : Prop where
  base : ∀ b o, B b = some o → H b = some o
  all : ∀ q ∈ L, H q.1 = some q.2
  nd : (L.map Prod.fst).Nodup
  new : ∀ q ∈ L, B q.1 = none
/-- H without the addresses of a list -/
def mns (H : Hp) (F : List Addr) : Hp := fun b => if b ∈ F then none else H b
section
variable {B H H' : Hp} {L M : List (Addr × HO)} {a b p : Addr} {o u : HO}
theorem mns_nil : mns H [] = H := by
  funext b
  unfold mns
  rw [if_neg (by simp)]
theorem Wd.start (H : Hp) : Wd H [] H := ⟨fun _ _ h => h, fun _ h => by simp at h, List.nodup_nil, fun _ h => by simp at h⟩
theorem Wd.of (nd : (L.map Prod.fst).Nodup) (all : ∀ q ∈ L, H q.1 = some q.2) : Wd (mns H (L.map Prod.fst)) L H :=
  ⟨fun b o h => by
    unfold mns at h
    split at h
    · cases h
    · exact h, all, nd, fun q hq => by
      unfold mns
      rw [if_pos (List.mem_map_of_mem hq)]⟩
theorem Wd.at (h : Wd B L H) (i : Nat) (e : L[i]? = some (a, o)) : H a = some o := h.all (a, o) (List.mem_of_getElem? e)
theorem Wd.keyNone (h : Wd B L H) (hp : H p = none) : p ∉ L.map Prod.fst := fun hm => by
  obtain ⟨q, hq, e⟩ := List.mem_map.mp hm
  have := h.all q hq
  rw [e, hp] at this
  cases this
theorem Wd.baseNone (h : Wd B L H) (hp : H p = none) : B p = none := by
  cases e : B p with
  | none => rfl
  | some o => rw [h.base p o e] at hp; cases hp
theorem Wd.add (h : Wd B L H) (hp : H p = none) : Wd B ((p, o) :: L) (upd H p o) where
  base := fun b u e => by
    rw [upd_ne (ne_of_none (h.base b u e) hp)]
    exact h.base b u e
  all := fun q hq => by
    rcases List.mem_cons.mp hq with rfl | hq
    · exact upd_same
    · rw [upd_ne (ne_of_none (h.all q hq) hp)]
      exact h.all q hq
  nd := by
    rw [List.map_cons]
    exact List.nodup_cons.mpr ⟨h.keyNone hp, h.nd⟩
  new := fun q hq => by
    rcases List.mem_cons.mp hq with rfl | hq
    · exact h.baseNone hp
    · exact h.new q hq
theorem Wd.put (h : Wd B L H) (i : Nat) (e : L[i]? = some (a, u)) : Wd B (L.set i (a, o)) (upd H a o) := by
  obtain ⟨hi, e'⟩ := List.getElem?_eq_some_iff.mp e
  have hm : (a, u) ∈ L := List.mem_of_getElem? e
  have km : (L.set i (a, o)).map Prod.fst = L.map Prod.fst := by
    rw [List.map_set]
    refine List.ext_getElem? fun j => ?_
    by_cases hj : i = j
    · subst hj
      rw [List.getElem?_set_self (by rw [List.length_map]; exact hi), List.getElem?_map, e]
      rfl
    · rw [List.getElem?_set_ne hj]
  refine ⟨fun b v eb => ?_, fun q hq => ?_, by rw [km]; exact h.nd, fun q hq => ?_⟩
  · have : b ≠ a := fun z => by
      have := h.new _ hm
      rw [z] at eb
      rw [this] at eb
      cases eb
    rw [upd_ne this]
    exact h.base b v eb
  · obtain ⟨j, hj, ej⟩ := List.mem_iff_getElem.mp hq
    rw [List.length_set] at hj
    by_cases hij : i = j
    · subst hij
      rw [List.getElem_set_self] at ej
      subst ej
      exact upd_same
    · rw [List.getElem_set_ne hij] at ej
      have hq' : q ∈ L := by rw [← ej]; exact List.getElem_mem _
      have : q.1 ≠ a := fun z => by
        apply hij
        have nd := h.nd
        have h1 : (L.map Prod.fst)[i]'(by rw [List.length_map]; exact hi) = a := by rw [List.getElem_map, e']
        have h2 : (L.map Prod.fst)[j]'(by rw [List.length_map]; exact hj) = a := by rw [List.getElem_map, ej, z]
        exact (List.getElem_inj nd).mp (h1.trans h2.symm)
      rw [upd_ne this]
      exact h.all q hq'
  · have hq' : q.1 ∈ (L.set i (a, o)).map Prod.fst := List.mem_map_of_mem hq
    rw [km] at hq'
    obtain ⟨r, hr, er⟩ := List.mem_map.mp hq'
    rw [← er]
    exact h.new r hr
/-- behind a callee that owned L and left L' -/
theorem Wd.call {L' : List (Addr × HO)} (h : Wd B (L ++ M) H) (c : Wd (mns H (L.map Prod.fst)) L' H') : Wd B (L' ++ M) H' := by
  have nd := h.nd
  rw [List.map_append] at nd
  obtain ⟨n1, n2, n3⟩ := List.nodup_append.mp nd
  have kb : ∀ b o, B b = some o → b ∉ L.map Prod.fst := fun b o e hm => by
    obtain ⟨q, hq, e2⟩ := List.mem_map.mp hm
    have := h.new q (List.mem_append_left _ hq)
    rw [e2, e] at this
    cases this
  have up : ∀ b o, H b = some o → b ∉ L.map Prod.fst → H' b = some o := fun b o e hn => c.base b o (by unfold mns; rw [if_neg hn]; exact e)
  refine ⟨fun b o e => up b o (h.base b o e) (kb b o e), fun q hq => ?_, ?_, fun q hq => ?_⟩
  · rcases List.mem_append.mp hq with hq | hq
    · exact c.all q hq
    · exact up _ _ (h.all q (List.mem_append_right _ hq)) fun hm => n3 _ hm _ (List.mem_map_of_mem hq) rfl
  · rw [List.map_append]
    refine List.nodup_append.mpr ⟨c.nd, n2, fun x hx y hy e => ?_⟩
    subst e
    obtain ⟨q, hq, rfl⟩ := List.mem_map.mp hx
    obtain ⟨r, hr, er⟩ := List.mem_map.mp hy
    have h1 := c.new q hq
    unfold mns at h1
    split at h1
    · rename_i hm
      exact n3 _ hm _ hy rfl
    · rw [← er, h.all r (List.mem_append_right _ hr)] at h1
      cases h1
  · rcases List.mem_append.mp hq with hq | hq
    · have h1 := c.new q hq
      unfold mns at h1
      split at h1
      · rename_i hm
        obtain ⟨r, hr, er⟩ := List.mem_map.mp hm
        rw [← er]
        exact h.new r (List.mem_append_left _ hr)
      · exact h.baseNone h1
    · exact h.new q (List.mem_append_right _ hq)
/-- behind a callee that owned nothing -/
theorem Wd.pure {L' : List (Addr × HO)} (h : Wd B M H) (c : Wd H L' H') : Wd B (L' ++ M) H' := by
  refine Wd.call (L := []) h ?_
  rw [List.map_nil, mns_nil]
  exact c
theorem Wd.perm (h : Wd B L H) (e : List.Perm L M) : Wd B M H :=
  ⟨h.base, fun q hq => h.all q (e.mem_iff.mpr hq), (e.map Prod.fst).nodup_iff.mp h.nd, fun q hq => h.new q (e.mem_iff.mpr hq)⟩
theorem Wd.sub (h : Wd B L H) (s : List.Sublist M L) : Wd B M H :=
  ⟨h.base, fun q hq => h.all q (s.subset hq), (s.map Prod.fst).nodup h.nd, fun q hq => h.new q (s.subset hq)⟩
theorem Wd.drop0 {q : Addr × HO} (h : Wd B (q :: L) H) : Wd B L H := h.sub (List.sublist_cons_self _ _)
theorem Wd.same (h : Wd B L H) : Same B H := h.base
theorem Wd.seq {K : PySem.W.Frag} {xs : List V} (h : Wd B L H) (s : SqL K B a xs) : SqL K H a xs := h.same.seq s
theorem Wd.ne (h : Wd B L H) {i j : Nat} (e1 : L[i]? = some (a, o)) (e2 : L[j]? = some (b, u)) (hij : i ≠ j) : a ≠ b := fun z => by
  subst z
  have h1 : (L.map Prod.fst)[i]? = some a := by rw [List.getElem?_map, e1]; rfl
  have h2 : (L.map Prod.fst)[j]? = some a := by rw [List.getElem?_map, e2]; rfl
  exact hij (nd_ix h.nd h1 h2)
/-- the base may be cut -/
theorem Wd.weak {B' : Hp} (h : Wd B L H) (k : ∀ b o, B' b = some o → B b = some o) : Wd B' L H :=
  ⟨fun b o e => h.base b o (k b o e), h.all, h.nd, fun q hq => by
    cases e : B' q.1 with
    | none => rfl
    | some o => have := h.new q hq; rw [k _ _ e] at this; cases this⟩
end
/-! ## a choice of what is known -/
section
variable {B H H' : Hp} {L L' M : List (Addr × HO)}
theorem pick_mem : ∀ {idx : List Nat} {L L' : List (Addr × HO)}, idx.map (fun i => L[i]?) = L'.map some → ∀ q ∈ L', ∃ i ∈ idx, L[i]? = some q
  | [], _, [], _, q, hq => by simp at hq
  | [], _, _ :: _, h, _, _ => by simp at h
  | _ :: _, _, [], h, _, _ => by simp at h
  | i :: idx, L, x :: L', h, q, hq => by
    simp only [List.map_cons, List.cons.injEq] at h
    rcases List.mem_cons.mp hq with rfl | hq
    · exact ⟨i, List.mem_cons_self, h.1⟩
    · obtain ⟨j, hj, e⟩ := pick_mem h.2 q hq
      exact ⟨j, List.mem_cons_of_mem _ hj, e⟩
theorem pick_nd : ∀ {idx : List Nat} {L L' : List (Addr × HO)}, (L.map Prod.fst).Nodup → idx.Nodup → idx.map (fun i => L[i]?) = L'.map some → (L'.map Prod.fst).Nodup
  | [], _, [], _, _, _ => List.nodup_nil
  | [], _, _ :: _, _, _, h => by simp at h
  | _ :: _, _, [], _, _, h => by simp at h
  | i :: idx, L, x :: L', nd, ni, h => by
    simp only [List.map_cons, List.cons.injEq] at h
    rw [List.map_cons]
    refine List.nodup_cons.mpr ⟨fun hm => ?_, pick_nd nd (List.nodup_cons.mp ni).2 h.2⟩
    obtain ⟨q, hq, e⟩ := List.mem_map.mp hm
    obtain ⟨j, hj, ej⟩ := pick_mem h.2 q hq
    have h1 : (L.map Prod.fst)[i]? = some x.1 := by rw [List.getElem?_map, h.1]; rfl
    have h2 : (L.map Prod.fst)[j]? = some x.1 := by rw [List.getElem?_map, ej, ← e]; rfl
    have := nd_ix nd h1 h2
    subst this
    exact (List.nodup_cons.mp ni).1 hj
/-- L' is made of the places idx of L -/
theorem Wd.pick (h : Wd B (L ++ M) H) (idx : List Nat) (nd : idx.Nodup) (e : idx.map (fun i => L[i]?) = L'.map some) : Wd B (L' ++ M) H := by
  have hn := h.nd
  rw [List.map_append] at hn
  obtain ⟨n1, n2, n3⟩ := List.nodup_append.mp hn
  have sub : ∀ q ∈ L', q ∈ L := fun q hq => by
    obtain ⟨i, _, e⟩ := pick_mem e q hq
    exact List.mem_of_getElem? e
  refine ⟨h.base, fun q hq => h.all q ?_, ?_, fun q hq => h.new q ?_⟩
  · rcases List.mem_append.mp hq with hq | hq
    · exact List.mem_append_left _ (sub q hq)
    · exact List.mem_append_right _ hq
  · rw [List.map_append]
    refine List.nodup_append.mpr ⟨pick_nd n1 nd e, n2, fun x hx y hy => n3 x ?_ y hy⟩
    obtain ⟨q, hq, e2⟩ := List.mem_map.mp hx
    exact e2 ▸ List.mem_map_of_mem (sub q hq)
  · rcases List.mem_append.mp hq with hq | hq
    · exact List.mem_append_left _ (sub q hq)
    · exact List.mem_append_right _ hq
theorem Wd.swap (h : Wd B (L ++ (L' ++ M)) H) : Wd B (L' ++ (L ++ M)) H := h.perm (by
  rw [← List.append_assoc, ← List.append_assoc]
  exact List.Perm.append_right M List.perm_append_comm)
end
/-! ## loops of a written length, turn by turn -/
def UR (lo : Int) (g : TG) (tb : TS) (D : Ends) : Nat → Nat → L2.St → Hp → Prop
  | 0, _ => D.nx
  | k + 1, i => fun σ H => g (.int (lo + i)) σ H fun σ2 H2 => tb { D with nx := UR lo g tb D k (i + 1), ct := UR lo g tb D k (i + 1), bk := D.nx } σ2 H2
theorem for_rangeU {lo : Int} {n : Nat} {g : TG} {tb : TS} {D : Ends} {σ : L2.St} {H : Hp} (h : UR lo g tb D n 0 σ H) :
    ∃ W : Nat → Nat → L2.St → Hp → Prop, (∃ m, W 0 m σ H) ∧ ∀ i m σ H, W i m σ H →
      ((Itr lo n).stop i H ∧ D.nx σ H) ∨ ((Itr lo n).go i H ∧ ∃ N : L2.St → Hp → Prop, (∀ σ' H', N σ' H' → ∃ m', m' < m ∧ W (i + 1) m' σ' H') ∧ ∀ x H', (Itr lo n).yld i H x H' → g x σ H' fun σ2 H2 => tb { D with nx := N, ct := N, bk := D.nx } σ2 H2) := by
  refine for_range (Pv := fun i σ H => i ≤ n ∧ UR lo g tb D (n - i) i σ H) ⟨Nat.zero_le _, h⟩ (fun i σ H hi p => ?_) (fun σ H p => ?_)
  · obtain ⟨_, p⟩ := p
    have e : n - i = (n - (i + 1)) + 1 := by omega
    rw [e] at p
    have ee : (fun σ H => i + 1 ≤ n ∧ UR lo g tb D (n - (i + 1)) (i + 1) σ H) = UR lo g tb D (n - (i + 1)) (i + 1) := by
      funext σ H
      exact propext ⟨fun z => z.2, fun z => ⟨hi, z⟩⟩
    rw [ee]
    exact p
  · obtain ⟨_, p⟩ := p
    rw [Nat.sub_self] at p
    exact p
def URC (lo : Int) (g : TG) (tt : TT) (te : TE) (vs : List Nat) (σ : L2.St) (D : Addr) (Qd : Hp → Prop) : Nat → Nat → Hp → Prop
  | 0, _ => Qd
  | k + 1, i => fun H => g (.int (lo + i)) (wipe σ vs) H fun σ2 H2 => wipe σ2 vs = wipe σ vs ∧ tt σ2 H2 fun b H3 =>
      if b = true then te σ2 H3 fun y H4 => ∃ acc, H4 D = some (.lst acc) ∧ acc.length < sizeLine ∧ URC lo g tt te vs σ D Qd k (i + 1) (upd H4 D (.lst (acc ++ [y]))) else URC lo g tt te vs σ D Qd k (i + 1) H3

/-! ## small things -/
def isL (l : List Int) : HO := .lst (l.map V.int)
theorem sqL_of {K : PySem.W.Frag} {H : Hp} {a : Addr} {xs : List V} (h : H a = some (.lst xs)) : SqL K H a xs := .inl (.inl h)
theorem sqT_of {K : PySem.W.Frag} {H : Hp} {a : Addr} {xs : List V} (h : H a = some (.tup xs)) : SqT K H a xs := .inl (.inl h)
theorem map_get {l : List Int} {i : Nat} {y : V} (h : (l.map V.int)[i]? = some y) : ∃ z, l[i]? = some z ∧ y = .int z := by
  rw [List.getElem?_map] at h
  cases e : l[i]? with
  | none => rw [e] at h; cases h
  | some z => rw [e] at h; exact ⟨z, rfl, (Option.some.inj h).symm⟩
theorem isL_app (l : List Int) (i : Int) : (l.map V.int) ++ [.int i] = (l ++ [i]).map V.int := by simp
theorem isL_cat (l k : List Int) : (l.map V.int) ++ (k.map V.int) = (l ++ k).map V.int := by simp
/-- the cell of a script, 0 behind its end -/
def cell (ns : List Int) (k : Int) : Int := if k < ns.length then ns.getD k.toNat 0 else 0
theorem if_iff {c : Bool} {p : Prop} [Decidable p] {A B : Prop} (e : c = decide p) (h1 : p → A) (h2 : ¬ p → B) : if c = true then A else B := by
  subst e
  by_cases h : p
  · rw [decide_eq_true h, if_pos rfl]; exact h1 h
  · rw [decide_eq_false h, if_neg Bool.false_ne_true]; exact h2 h
theorem iteP {c : Bool} {p : Prop} [Decidable p] {A B : Prop} (h : p) (e : c = decide p) (a : A) : if c = true then A else B := by
  rw [e, decide_eq_true h, if_pos rfl]; exact a
theorem iteN {c : Bool} {p : Prop} [Decidable p] {A B : Prop} (h : ¬ p) (e : c = decide p) (b : B) : if c = true then A else B := by
  rw [e, decide_eq_false h, if_neg Bool.false_ne_true]; exact b
theorem pos_len (l : List Int) : decide ((0 : Int) < ((l.map V.int).length : Int)) = decide (l.length > 0) := by
  rw [List.length_map]
  exact decide_eq_decide.mpr Int.natCast_pos
theorem len2 (a b : List Int) (n : Nat) : decide ((n : Int) < ((a.map V.int).length : Int) + ((b.map V.int).length : Int)) = decide (a.length + b.length > n) := by
  rw [List.length_map, List.length_map]
  exact decide_eq_decide.mpr (by omega)
theorem len3 (a b c : List Int) (n : Nat) : decide ((n : Int) < ((a.map V.int).length : Int) + ((b.map V.int).length : Int) + ((c.map V.int).length : Int)) = decide (a.length + b.length + c.length > n) := by
  rw [List.length_map, List.length_map, List.length_map]
  exact decide_eq_decide.mpr (by omega)
theorem cut_to {l : List Int} {n : Int} (h : 0 ≤ n) : cutV (l.map V.int) none (some n) = (l.take n.toNat).map V.int := by
  obtain ⟨k, rfl⟩ := Int.eq_ofNat_of_zero_le h
  unfold cutV
  rw [HT.sIx_none, HT.sIx_nat, List.drop_zero, Nat.sub_zero, Int.toNat_natCast, List.length_map, ← List.map_take, List.take_eq_take_iff.mpr (show min (min k l.length) l.length = min k l.length by omega)]
theorem rep_int (n : Nat) (i : Int) : (List.replicate n [V.int i]).flatten = (List.replicate n i).map V.int := by
  induction n with
  | zero => rfl
  | succ n ih => rw [List.replicate_succ, List.flatten_cons, ih, List.replicate_succ, List.map_cons]; rfl
theorem take_more {α : Type} : ∀ {l : List α} {i : Nat} {x : α}, l[i]? = some x → l.take (i + 1) = l.take i ++ [x]
  | [], i, x, h => by simp at h
  | a :: l, 0, x, h => by
    have e : a = x := Option.some.inj h
    subst e
    rfl
  | a :: l, i + 1, x, h => by
    have ih := take_more (l := l) (i := i) (x := x) h
    show a :: l.take (i + 1) = a :: l.take i ++ [x]
    rw [ih]
    rfl
theorem band255 {x : Int} (h : 0 ≤ x) : Builtin.bitAnd x 255 = x % 256 := Bits.bitAnd_mask 8 h
theorem band15 {x : Int} (h : 0 ≤ x) : Builtin.bitAnd x 15 = x % 16 := Bits.bitAnd_mask 4 h
theorem band1 {x : Int} (h : 0 ≤ x) : Builtin.bitAnd x 1 = x % 2 := Bits.bitAnd_mask 1 h
theorem ab_nn (i : Int) : 0 ≤ (if i < 0 then -i else i) := by split <;> omega
theorem sz_le {n : Nat} (h : n ≤ 200000) : n ≤ sizeLine := Nat.le_trans h (by decide)
theorem sz_lt {n : Nat} (h : n ≤ 200000) : n < sizeLine := Nat.lt_of_le_of_lt h (by decide)
/-! ## equality of data -/
def dInts (l : List Int) : PyData := .list (l.map PyData.int)
theorem dpAll_ints {K : PySem.W.Frag} {H : Hp} : ∀ l : List Int, DpAll K H (l.map V.int) (l.map PyData.int)
  | [] => .nil
  | i :: l => .cons (.int i) (dpAll_ints l)
theorem dp_ints {K : PySem.W.Frag} {H : Hp} {a : Addr} {l : List Int} (h : SqL K H a (l.map V.int)) : Dp K H (.ref a) (dInts l) := .lst h (dpAll_ints l)
theorem canLay_ints : ∀ l : List Int, PyData.canLayAll0 (l.map PyData.int) = true
  | [] => rfl
  | i :: l => by
    show (PyData.canLay0 (.int i) && PyData.canLayAll0 (l.map PyData.int)) = true
    rw [canLay_ints l]
    rfl
theorem depth_ints : ∀ l : List Int, PyData.depthAll (l.map PyData.int) = 0
  | [] => rfl
  | i :: l => by
    show max (PyData.depth (.int i)) (PyData.depthAll (l.map PyData.int)) = 0
    rw [depth_ints l]
    rfl
theorem shaped_ints (l : List Int) : SeqAt.shaped (dInts l) = true := by
  have h1 : PyData.canLay0 (dInts l) = true := canLay_ints l
  have h2 : PyData.depth (dInts l) = 0 + 1 := congrArg (· + 1) (depth_ints l)
  unfold SeqAt.shaped
  rw [h1, h2]
  rfl
theorem eqv_ints : ∀ l k : List Int, PyData.eqvAll (l.map PyData.int) (k.map PyData.int) = decide (l = k)
  | [], [] => rfl
  | [], j :: k => by
    show false = _
    rw [decide_eq_false (by simp)]
  | i :: l, [] => by
    show false = _
    rw [decide_eq_false (by simp)]
  | i :: l, j :: k => by
    show ((i == j) && PyData.eqvAll (l.map PyData.int) (k.map PyData.int)) = _
    rw [eqv_ints l k]
    by_cases e1 : i = j
    · subst e1
      by_cases e2 : l = k
      · subst e2; simp
      · rw [decide_eq_false e2, decide_eq_false (by simpa using e2)]; simp
    · rw [decide_eq_false (show ¬ (i :: l = j :: k) by intro z; exact e1 (List.cons.inj z).1), beq_eq_false_iff_ne.mpr e1]; rfl
theorem eqD_ints (l k : List Int) : PyData.eqv (dInts l) (dInts k) = decide (l = k) := eqv_ints l k
/-! ## the class of a value -/
theorem isi_int {K : PySem.W.Frag} {H : Hp} {Q : VK} (i : Int) (n : String) {r : Bool} (hk : kitB "int" n = some r) (q : Q (.bl r) H) : rIsi K [.int i, .ty n] H Q := ⟨_, _, _, _, r, rfl, .ty n, .base (.int i), kit_ty hk, q⟩
theorem isi_lst {K : PySem.W.Frag} {H : Hp} {Q : VK} {a : Addr} {xs : List V} (h : H a = some (.lst xs)) (n : String) {r : Bool} (hk : kitB "list" n = some r) (q : Q (.bl r) H) : rIsi K [.ref a, .ty n] H Q := ⟨_, _, _, _, r, rfl, .ty n, .base (.lst h), kit_ty hk, q⟩
theorem isi_str {K : PySem.W.Frag} {H : Hp} {Q : VK} (x : Str) (n : String) {r : Bool} (hk : kitB "str" n = some r) (q : Q (.bl r) H) : rIsi K [.str x, .ty n] H Q := ⟨_, _, _, _, r, rfl, .ty n, .base (.str x), kit_ty hk, q⟩
theorem isi_bl {K : PySem.W.Frag} {H : Hp} {Q : VK} (x : Bool) (n : String) {r : Bool} (hk : kitB "bool" n = some r) (q : Q (.bl r) H) : rIsi K [.bl x, .ty n] H Q := ⟨_, _, _, _, r, rfl, .ty n, .base (.bl x), kit_ty hk, q⟩
theorem isi_non {K : PySem.W.Frag} {H : Hp} {Q : VK} (n : String) {r : Bool} (hk : kitB "NoneType" n = some r) (q : Q (.bl r) H) : rIsi K [.non, .ty n] H Q := ⟨_, _, _, _, r, rfl, .ty n, .base .non, kit_ty hk, q⟩
theorem isi_tup {K : PySem.W.Frag} {H : Hp} {Q : VK} {a : Addr} {xs : List V} (h : H a = some (.tup xs)) (n : String) {r : Bool} (hk : kitB "tuple" n = some r) (q : Q (.bl r) H) : rIsi K [.ref a, .ty n] H Q := ⟨_, _, _, _, r, rfl, .ty n, .base (.tup h), kit_ty hk, q⟩
theorem kit_ii : kitB "int" "int" = some true := by decide +kernel
theorem kit_ib : kitB "int" "bool" = some false := by decide +kernel
theorem kit_ll : kitB "list" "list" = some true := by decide +kernel
theorem kit_ss : kitB "str" "str" = some true := by decide +kernel
theorem kit_bb : kitB "bool" "bool" = some true := by decide +kernel
theorem kit_is : kitB "int" "str" = some false := by decide +kernel
theorem kit_ns : kitB "NoneType" "str" = some false := by decide +kernel
theorem kit_bs : kitB "bool" "str" = some false := by decide +kernel
theorem kit_ls : kitB "list" "str" = some false := by decide +kernel
theorem kit_ts : kitB "tuple" "str" = some false := by decide +kernel
theorem kit_ds : kitB "dict" "str" = some false := by decide +kernel
/-- isinstance of an error in a suite -/
theorem isE_of {K : PySem.W.Frag} {H : Hp} {Q : VK} {a D C : Addr} {b : Bool} (c : ExcC K D) (k : PySem.W.kitOne K (.ref D) (.ref C) = some b) (q : Q (.bl b) H) : rIsE2 K a (.ref D) none [.ref a, .ref C] H Q :=
  ⟨D, rfl, rfl, c, .ref C, .ref C, b, rfl, fun u h => h, k, q⟩
/-! ## rules that name the written part shortly -/
def rLen (K : PySem.W.Frag) : List V → Hp → VK → Prop := fun xs H Q => ∃ p ys, xs = [.ref p] ∧ (SqL K H p ys ∨ SqT K H p ys) ∧ Q (.int (ys.length : Int)) H
def rList (K : PySem.W.Frag) : List V → Hp → VK → Prop := fun xs H Q => ∃ p ys, xs = [.ref p] ∧ (SqL K H p ys ∨ SqT K H p ys) ∧ ∀ l, H l = none → Q (.ref l) (upd H l (.lst ys))
def rAbs : List V → Hp → VK → Prop := fun xs H Q => ∃ i, xs = [.int i] ∧ Q (.int (if i < 0 then -i else i)) H
def rMin2 : List V → Hp → VK → Prop := fun xs H Q => ∃ i j, xs = [.int i, .int j] ∧ Q (.int (if j < i then j else i)) H
def rMax2 : List V → Hp → VK → Prop := fun xs H Q => ∃ i j, xs = [.int i, .int j] ∧ Q (.int (if j > i then j else i)) H
def rInt1 : List V → Hp → VK → Prop := fun xs H Q => (∃ i, xs = [.int i] ∧ Q (.int i) H) ∨ ∃ k, xs = [.bl k] ∧ Q (.int (if k then 1 else 0)) H
def rNot : R2 := fun x y H Q => y = .non ∧ Q (.bl (!decide (x = .non))) H
def rIs : R2 := fun x y H Q => y = .non ∧ Q (.bl (decide (x = .non))) H
section
variable {X : Cx} {K : PySem.W.Frag}
theorem pe_fldK {e : Expr} {f : Str} {pos : Pos} {ta : TE} (he : PE X e ta) (hb : attributeBase e f X.env (eval e X.env) = eval e X.env) (hK : X.K = K := by rfl) : PE X (.Attribute e f pos) (tFld K ta f) := by subst hK; exact pe_fld he hb
theorem ps_fldK {o value : Expr} {f : Str} {pos pos' : Pos} {ta tv : TE} (ha : PE X o ta) (hv : PE X value tv) (hs : swapsWith value (some (.Attribute o f pos')) pos.line X.env = pure false) (hK : X.K = K := by rfl) : PS X (.Assign [.Attribute o f pos'] value pos) (sFld K ta tv f) := by subst hK; exact ps_fld ha hv hs
theorem ps_fldaugK {o value : Expr} {f : Str} {pos tpos : Pos} {ta tv : TE} {op : Operator} {rd : V → V → Hp → VK → Prop} (ha : PE X o ta) (hv : PE X value tv) (hop : InOp X op rd) (hK : X.K = K := by rfl) : PS X (.AugAssign (.Attribute o f tpos) op value pos) (sFldAug K ta tv rd f) := by subst hK; exact ps_fldaug ha hv hop
theorem ix_listK (hK : X.K = K := by rfl) : IxR X (rIxL K) := by subst hK; exact ix_list
theorem ix_tupK (hK : X.K = K := by rfl) : IxR X (rIxT K) := by subst hK; exact ix_tup
theorem sl_listK (hK : X.K = K := by rfl) : SlR X (rSlL K) := by subst hK; exact sl_list
theorem sl_tupK (hK : X.K = K := by rfl) : SlR X (rSlT K) := by subst hK; exact sl_tup
theorem op_eqDK (hu : X.A.units + 64 < cLine) (hK : X.K = K := by rfl) : OpR X (compareOp .Eq) (rEqD K) := by subst hK; exact op_eqD hu
theorem op_neDK (hu : X.A.units + 64 < cLine) (hK : X.K = K := by rfl) : OpR X (compareOp .NotEq) (rNeD K) := by subst hK; exact op_neD hu
theorem op_inK (hK : X.K = K := by rfl) : OpR X (compareOp .In) (rIn K false) := by subst hK; exact op_in_seq
theorem op_notInK (hK : X.K = K := by rfl) : OpR X (compareOp .NotIn) (rIn K true) := by subst hK; exact op_notIn_seq
theorem call_lenK (hK : X.K = K := by rfl) : CallR X (.builtin "len") (rLen K) := by subst hK; exact call_len_seq
theorem call_listK (hK : X.K = K := by rfl) : CallR X (.type "list") (rList K) := by subst hK; exact call_list_of
theorem call_isiK' (hK : X.K = K := by rfl) : CallR X (.builtin "isinstance") (rIsi K) := by subst hK; exact call_isi
theorem call_absK : CallR X (.builtin "abs") rAbs := call_abs
theorem call_minK (hc : X.calm = true) : CallR X (.builtin "min") rMin2 := call_min2 hc
theorem call_maxK (hc : X.calm = true) : CallR X (.builtin "max") rMax2 := call_max2 hc
theorem call_intK : CallR X (.type "int") rInt1 := call_int1
theorem op_notNK : OpR X (compareOp .IsNot) rNot := op_notN
theorem op_isNK : OpR X (compareOp .Is) rIs := op_isN
theorem pi_listK {tg l : Expr} {tl : TE} (hl : PE X l tl) (hK : X.K = K := by rfl) : PI X tg l (iList K tl) := by subst hK; exact pi_list hl
theorem pi_tupK {tg l : Expr} {tl : TE} (hl : PE X l tl) (hK : X.K = K := by rfl) : PI X tg l (iTup K tl) := by subst hK; exact pi_tup hl
theorem pg_tupK {es : List Expr} {k : Nat} {t : TGs} {n : Nat} {pos : Pos} (hc : X.calm = true) (h : PGs X es t)
    (hn : (assignEach es X.env).length = n := by rfl) (hst : (assignEach es X.env).findIdx? (·.1) = none := by rfl) (hK : X.K = K := by rfl) : PG X (.Tuple es k pos) (gTup K n t) := by subst hK; exact pg_tup hc h hn hst
theorem pe_bm0K {o : Expr} {to : TE} {T : String} {name : Str} {id : String} {r : V → List V → Hp → VK → Prop} {apos cpos : Pos} (pa : PlainAttrs T) (slot : Slot T name id) (hty : typeOf (.builtin id) = pure (.type "method_descriptor")) (hm : MtR X id r) (ho : PE X o to)
    (hbase : attributeBase o name X.env (eval o X.env) = eval o X.env := by rfl) (hline : (apos.endLine == cpos.line) = true := by rfl) (hK : X.K = K := by rfl) : PE X (.Call (.Attribute o name apos) [] [] cpos) (tBM0 K T r to) := by subst hK; exact pe_bm0 pa slot hty hm ho hbase hline
theorem pe_bmK {o e : Expr} {es : List Expr} {to : TE} {t : TA} {T : String} {name : Str} {id : String} {r : V → List V → Hp → VK → Prop} {apos cpos : Pos} (pa : PlainAttrs T) (slot : Slot T name id) (hty : typeOf (.builtin id) = pure (.type "method_descriptor")) (hm : MtR X id r) (ho : PE X o to) (ha : PA X (e :: es) t)
    (hbase : attributeBase o name X.env (eval o X.env) = eval o X.env := by rfl)
    (hfew : ((backTo cpos (starEach (e :: es) X.env)).all (fun x => !x.1) && (backToKw cpos (keywordEach [] X.env)).all (fun x => x.1.isSome)
      && decide ((e :: es).length + ([] : List Keyword).length + (if ([] : List Keyword).isEmpty then 0 else 1) < 30)) = true := by rfl)
    (hline : (apos.endLine == cpos.line) = true := by rfl) (hs : starEach (e :: es) X.env = (false, eval e X.env) :: starEach es X.env := by rfl) (hplain : (backTo cpos (starEach es X.env)).any (·.1) = false := by rfl) (hK : X.K = K := by rfl) :
    PE X (.Call (.Attribute o name apos) (e :: es) [] cpos) (tBM K T r to t) := by subst hK; exact pe_bm pa slot hty hm ho ha hbase hfew hline hs hplain
end
theorem dpAll_bls {K : PySem.W.Frag} {H : Hp} : ∀ l : List Bool, DpAll K H (l.map V.bl) (l.map PyData.bool)
  | [] => .nil
  | i :: l => .cons (.bl i) (dpAll_bls l)
theorem dp_bls {K : PySem.W.Frag} {H : Hp} {a : Addr} (l : List Bool) (h : H a = some (.lst (l.map V.bl))) : Dp K H (.ref a) (.list (l.map PyData.bool)) := .lst (sqL_of h) (dpAll_bls l)
/-- an if whose ways meet again: what holds behind both -/
theorem if_join {D : Ends} {t u : TS} {σ : L2.St} {H : Hp} (Pv : L2.St → Hp → Prop) {c : Bool} {p : Prop} [Decidable p] (e : c = decide p) (h1 : p → ∀ N : L2.St → Hp → Prop, (∀ σ' H', Pv σ' H' → N σ' H') → t { D with nx := N } σ H)
    (h2 : ¬ p → ∀ N : L2.St → Hp → Prop, (∀ σ' H', Pv σ' H' → N σ' H') → u { D with nx := N } σ H) (h3 : ∀ σ' H', Pv σ' H' → D.nx σ' H') : if c = true then t D σ H else u D σ H := by
  subst e
  by_cases h : p
  · rw [decide_eq_true h, if_pos rfl]; exact h1 h D.nx h3
  · rw [decide_eq_false h, if_neg Bool.false_ne_true]; exact h2 h D.nx h3
/-! ## what is made and stays -/
section
variable {B B' H : Hp} {L : List (Addr × HO)} {p : Addr} {o : HO}
theorem Wd.freeze (h : Wd B ((p, o) :: L) H) : Wd (upd B p o) L H := by
  have hp : B p = none := h.new (p, o) List.mem_cons_self
  have nd := h.nd
  rw [List.map_cons] at nd
  have nd := List.nodup_cons.mp nd
  refine ⟨fun b u e => ?_, fun q hq => h.all q (List.mem_cons_of_mem _ hq), nd.2, fun q hq => ?_⟩
  · by_cases hb : b = p
    · subst hb
      rw [upd_same] at e
      cases e
      exact h.all (b, o) List.mem_cons_self
    · rw [upd_ne hb] at e
      exact h.base b u e
  · have : q.1 ≠ p := fun z => nd.1 (List.mem_map.mpr ⟨q, hq, z⟩)
    rw [upd_ne this]
    exact h.new q (List.mem_cons_of_mem _ hq)
theorem Wd.frzSame (h : Wd B ((p, o) :: L) H) : Same B (upd B p o) := fun b u e => by
  have hp : B p = none := h.new (p, o) List.mem_cons_self
  rw [upd_ne (ne_of_none e hp)]
  exact e
theorem Wd.lift {H' : Hp} (h : Wd B L H) (s : Same H H') : Wd B L H' := ⟨fun b o e => s _ _ (h.base b o e), fun q hq => s _ _ (h.all q hq), h.nd, h.new⟩
end
theorem Paired.snoc {α β : Type} {F : α → β → Prop} {a : α} {b : β} (h : F a b) : ∀ {xs : List α} {ys : List β}, Paired F xs ys → Paired F (xs ++ [a]) (ys ++ [b])
  | _, _, .nil => .cons h .nil
  | _, _, .cons r t => .cons r (Paired.snoc h t)
theorem Paired.get {α β : Type} {F : α → β → Prop} : ∀ {xs : List α} {ys : List β} {i : Nat} {y : β}, Paired F xs ys → ys[i]? = some y → ∃ x, xs[i]? = some x ∧ F x y
  | _, _, _, _, .nil, h => by simp at h
  | _, _, 0, _, .cons r _, h => by
    obtain rfl := Option.some.inj h
    exact ⟨_, rfl, r⟩
  | _, _, i + 1, _, .cons _ t, h => Paired.get (i := i) t h
theorem Paired.get' {α β : Type} {F : α → β → Prop} : ∀ {xs : List α} {ys : List β} {i : Nat} {x : α}, Paired F xs ys → xs[i]? = some x → ∃ y, ys[i]? = some y ∧ F x y
  | _, _, _, _, .nil, h => by simp at h
  | _, _, 0, _, .cons r _, h => by
    obtain rfl := Option.some.inj h
    exact ⟨_, rfl, r⟩
  | _, _, i + 1, _, .cons _ t, h => Paired.get' (i := i) t h
theorem cut_seg {l : List Int} {lo hi : Int} (h0 : 0 ≤ lo) (h1 : lo ≤ hi) (h2 : hi ≤ l.length) : cutV (l.map V.int) (some lo) (some hi) = ((l.drop lo.toNat).take (hi.toNat - lo.toNat)).map V.int := by
  obtain ⟨a, rfl⟩ := Int.eq_ofNat_of_zero_le h0
  obtain ⟨b, rfl⟩ := Int.eq_ofNat_of_zero_le (Int.le_trans h0 h1)
  unfold cutV
  rw [HT.sIx_nat, HT.sIx_nat, Int.toNat_natCast, Int.toNat_natCast, List.length_map, Nat.min_eq_left (by omega), Nat.min_eq_left (by omega), ← List.map_drop, ← List.map_take]
theorem cut_from {l : List Int} {lo : Int} (h0 : 0 ≤ lo) : cutV (l.map V.int) (some lo) none = (l.drop lo.toNat).map V.int := by
  obtain ⟨a, rfl⟩ := Int.eq_ofNat_of_zero_le h0
  unfold cutV
  rw [HT.sIx_nat, HT.sIx_none, Int.toNat_natCast, List.length_map]
  by_cases h : a ≤ l.length
  · rw [Nat.min_eq_left h, List.take_of_length_le (by rw [List.length_drop, List.length_map]; omega), ← List.map_drop]
  · rw [Nat.min_eq_right (by omega), Nat.sub_self, List.take_zero, List.drop_eq_nil_of_le (by omega)]
    rfl
theorem at_int {l : List Int} {z : Int} (h0 : 0 ≤ z) (h1 : z < l.length) : atI (l.map V.int) z = some (.int (l.getD z.toNat 0)) := by
  have hl : z.toNat < l.length := by omega
  refine at_of (j := z.toNat) (by omega) ?_
  rw [List.getElem?_map, List.getElem?_eq_getElem hl, List.getD_eq_getElem?_getD, List.getElem?_eq_getElem hl]
  rfl
end Hk

/-! ## list(reversed(a list)) -/
namespace Hk
open PySem PySem.Spec PyProof.Rows RT
open L2 hiding Takes XE CX takes_of passes_call MkP PMk ps_raise mk_of ps_try_as passAt pmk_own
open L2N (Takes XE CX takes_of passes_call MkP PMk ps_raise mk_of ps_try_as passAt pmk_own)
section
variable {prog : Program} {w : World} {A : Around} {E : Value → Shared → Prop} {s : Shared}
theorem lr_extend {R : Result → Shared → Prop} {it l : Addr} {items : Array Value} (hh : A.handled = none) (hit : s.heap.IsRevIter it l ((items.size : Int) - 1)) (hl : s.heap.IsList l items) (hne : l ≠ it) (hn : items.size ≤ sizeLine)
    (S : Addr) (res : Value) (c₀ : Nat) (hSi : S ≠ it) (hSl : S ≠ l) (hS : s.heap.get? S = some { cls := .type "list", data := .seq #[] c₀ })
    (hR : ∀ h' tk acc c', (∀ b o, b ≠ it → b ≠ S → s.heap.get? b = some o → h'.get? b = some o) → h'.get? S = some { cls := .type "list", dict := none, data := .seq acc c', slots := #[] } →
      ItemsOf (fun i v => items[items.size - 1 - i]? = some v) acc items.size → R (.ok (.ret res)) { s with heap := h', toks := tk }) :
    wpAny (model prog w) A.in1 (Builtin.List.listExtendWith (.ref S) (.ref it) res)
      (fun fin s' => match fin with | .done f => R (.ok f) s' | .again c' => c'.quiet = true ∧ codeAny (model prog w) A c' R s') (fun e s' => R (.error e) s') s := by
  have W := (Walks.listRev (prog := prog) (w := w) (A := A.in1) hh it l hne items).toS
  have hSf : S ∉ [it, l] := by simp only [List.mem_cons, List.not_mem_nil, or_false, not_or]; exact ⟨hSi, hSl⟩
  have hT : s.TypeIs (.ref it) "list_reverseiterator" := Heap.IsRevIter.typeIs (s := s) hit
  have h1 : Builtin.List.listSameRef (.ref S) (.ref it) = false := by simp [Builtin.List.listSameRef, hSi]
  unfold Builtin.List.listExtendWith
  refine wpAny_bind (wpAny_typeOf hT ?_)
  rw [if_neg (by rw [h1]; decide)]
  refine wpAny_bind (wpAny_pyIter_revIter (s := s) hit ?_)
  refine wpAny_bind (wpAny_holding ?_)
  unfold Builtin.List.listLengthHint
  refine wpAny_bind (wpAny_specialOf hT nolen_lri ?_)
  show wpAny _ A.in1 (specialOf (Value.ref it) (Str.ofString "__length_hint__") >>= _) _ _ _
  refine wpAny_bind (wpAny_specialOf hT hint_lri ?_)
  generalize hid : ("list_reverseiterator.__length_hint__" : String) = id0
  wp_delta
  rw [show splitId id0 = some ("list_reverseiterator", "__length_hint__") from by subst hid; decide +kernel]
  subst hid
  refine wpAny_bind (wpAny_isInstance (b := true) hT (by rw [isSubtype_type]; kernel_rfl) ?_)
  refine wpAny_pure ?_
  rw [if_neg (by decide)]
  have e0 : ((items.size : Nat) : Int) - 1 - ((0 : Nat) : Int) = (items.size : Int) - 1 := by omega
  refine wpAny_pure ⟨plainId_quiet F.plain_extend_loop _, codeAny_extend_loopS W hn S hSf res items.size 0 _ #[] c₀ rfl (Nat.zero_le _) ⟨Nat.zero_le _, by rw [e0]; exact hit, hl⟩ hS (ItemsOf.nil _) fun s' acc' c' hm hS' hacc => ?_⟩
  rw [Moved.eq_with hm]
  refine hR s'.heap s'.toks acc' c' (fun b o hb hbS e => hm.heap b o (fun hmem => ?_) e) hS' hacc
  rcases List.mem_cons.mp hmem with e' | hmem
  · exact hbS e'
  · exact hb (List.mem_singleton.mp hmem)
theorem lr_init {R : Result → Shared → Prop} {it l : Addr} {items : Array Value} (hh : A.handled = none) (hit : s.heap.IsRevIter it l ((items.size : Int) - 1)) (hl : s.heap.IsList l items) (hne : l ≠ it) (hn : items.size ≤ sizeLine)
    (S : Addr) (hSi : S ≠ it) (hSl : S ≠ l) (hS : s.heap.get? S = some { cls := .type "list", data := .seq #[] })
    (hR : ∀ h' tk acc c', (∀ b o, b ≠ it → b ≠ S → s.heap.get? b = some o → h'.get? b = some o) → h'.get? S = some { cls := .type "list", dict := none, data := .seq acc c', slots := #[] } →
      ItemsOf (fun i v => items[items.size - 1 - i]? = some v) acc items.size → R (.ok (.ret .none)) { s with heap := h', toks := tk }) :
    wpAny (model prog w) A.in1 (Builtin.«list.__init__» ⟨[.ref S, .ref it], []⟩)
      (fun fin s' => match fin with | .done f => R (.ok f) s' | .again c' => c'.quiet = true ∧ codeAny (model prog w) A c' R s') (fun e s' => R (.error e) s') s := by
  show wpAny _ _ (do let old ← Builtin.List.listItems (.ref S); Builtin.List.listUpdate (.ref S) (fun _ => #[]); letGo old.toList.reverse; Builtin.List.listExtendWith (.ref S) (.ref it) .none) _ _ s
  refine wpAny_bind ?_
  unfold Builtin.List.listItems
  refine wpAny_bind (wpAny_seqItems hS rfl (wpAny_pure ?_))
  show wpAny _ _ (updateSeq S (fun _ => #[]) >>= fun _ => letGo (#[] : Array Value).toList.reverse >>= fun _ => Builtin.List.listExtendWith (.ref S) (.ref it) .none) _ _ s
  refine wpAny_bind (wpAny_updateSeq hS rfl ?_)
  have hS₂ := Heap.get?_update_self (Obj.mapSeq (fun _ => (#[] : Array Value))) hS rfl
  have oth : ∀ b o, b ≠ S → s.heap.get? b = some o → (s.heap.update S (Obj.mapSeq (fun _ => (#[] : Array Value)))).get? b = some o :=
    fun b o hb e => (Heap.get?_update_other _ _ (Ne.symm hb)).trans e
  refine wpAny_bind (wpAny_letGo ?_)
  refine lr_extend (s := { s with heap := s.heap.update S (Obj.mapSeq (fun _ => (#[] : Array Value))) }) hh (hit.at fun o e => oth _ _ (Ne.symm hSi) e) ?_ hne hn S .none _ hSi hSl hS₂ fun h' tk acc' c' hk hS' hacc => ?_
  · obtain ⟨ol, hol, r⟩ := hl
    exact ⟨ol, oth _ _ (Ne.symm hSl) hol, r⟩
  exact hR h' tk acc' c' (fun b o hb hbS e => hk b o hb hbS (oth b o hbS e)) hS' hacc
theorem lr_call {Q : Value → Shared → Prop} {it l : Addr} {items : Array Value} (hh : A.handled = none) (hit : s.heap.IsRevIter it l ((items.size : Int) - 1)) (hl : s.heap.IsList l items) (hne : l ≠ it) (hn : items.size ≤ sizeLine)
    (hQ : ∀ h' tk acc' c', (∀ b o, b ≠ it → s.heap.get? b = some o → h'.get? b = some o) →
      h'.get? s.heap.objs.size = some { cls := .type "list", dict := none, data := .seq acc' c', slots := #[] } → ItemsOf (fun i v => items[items.size - 1 - i]? = some v) acc' items.size → Q (.ref s.heap.objs.size) { s with heap := h', toks := tk }) :
    wpAny (model prog w) A (call (.type "list") [.ref it]) Q E s := by
  refine callType_codes (Q₁ := fun obj s₁ => obj = .ref s.heap.objs.size ∧ s₁ = { s with heap := s.heap.push { cls := .type "list", data := .seq #[] } }) F.called_list (F.typeCall_list_1 _) F.entry_list_init
    (code_list_new _ ⟨rfl, rfl⟩) fun obj s₁ h₁ => ?_
  obtain ⟨rfl, rfl⟩ := h₁
  obtain ⟨oi, hoi, _⟩ := id hit
  obtain ⟨ol, hol, _⟩ := id hl
  have hS : (s.heap.push { cls := .type "list", data := .seq #[] }).get? s.heap.objs.size = some { cls := .type "list", data := .seq #[] } := Heap.get?_push_size _ rfl
  refine ⟨⟨_, hS, rfl⟩, F.args_list_init_2 _ _, lr_init (s := { s with heap := s.heap.push { cls := .type "list", data := .seq #[] } }) (A := A.in1) hh (hit.at fun o e => Heap.get?_push_of_some _ e) (hl.push _) hne hn _ (Nat.ne_of_gt (Heap.lt_size hoi)) (Nat.ne_of_gt (Heap.lt_size hol)) hS fun h' tk acc' c' hk hS' hacc => ?_⟩
  exact ⟨rfl, hQ h' tk acc' c' (fun b o hb e => hk b o hb (Nat.ne_of_lt (Heap.lt_size e)) (Heap.get?_push_of_some _ e)) hS' hacc⟩
end
/-- list(reversed(x)), x a list: a new list -/
def tListRev (K : PySem.W.Frag) (te : TE) : TE := fun σ H Q => te σ H fun v H1 => ∃ (a : Addr) (xs : List V), v = .ref a ∧ SqL K H1 a xs ∧ ∀ q, H1 q = none → Q (.ref q) (upd H1 q (.lst xs.reverse))
section
variable {X : Cx} {K : PySem.W.Frag}
theorem pe_listRev {e : Expr} {te : TE} {p p2 pos pos2 : Pos} (hc : X.calm = true) (hm : X.mg "list" = none) (hm2 : X.mg "reversed" = none) (he : PE X e te) (hg : Gl X "list" := by rfl) (hg2 : Gl X "reversed" := by rfl)
    (hs : starEach [e] X.env = (false, eval e X.env) :: starEach [] X.env := by rfl)
    (hs2 : starEach [.Call (.Name "reversed" p2) [e] [] pos2] X.env = (false, eval (.Call (.Name "reversed" p2) [e] [] pos2) X.env) :: starEach [] X.env := by rfl) (hK : X.K = K := by rfl) :
    PE X (.Call (.Name "list" p) [.Call (.Name "reversed" p2) [e] [] pos2] [] pos) (tListRev K te) := by
  subst hK
  refine ⟨fun pins s σ H Q I h => ?_⟩
  refine Call_ (ld_blt I hg hm PyProof.Rows.boot_list (PyProof.Rows.callWith_type1 (args_cons (Call_ (ld_blt I hg2 hm2 PyProof.Rows.boot_reversed (PyProof.Rows.callWith_type1 (args_cons (thn (he.run pins s σ H _ I h) fun u s1 ⟨v, H1, I1, r1, q1⟩ => args_nil ?_) hs) hs rfl))) hs2) hs2 rfl))
  obtain ⟨a, xs, ev, hq, q⟩ := q1
  subst ev
  obtain rfl : u = Value.ref a := r1
  obtain ⟨its, rv, p', hz⟩ := I1.list hq
  refine call_reversed_list p'.isList (args_nil ?_)
  have k0 : ∀ b o, s1.heap.get? b = some o → (s1.heap.push (revObj a ((its.toArray.size : Int) - 1))).get? b = some o := fun b o e => Heap.get?_push_of_some _ e
  have I2 : Inv X pins σ H1 { s1 with heap := s1.heap.push (revObj a ((its.toArray.size : Int) - 1)) } := I1.kept (t' := s1.toks) k0
  obtain ⟨f0, f1, f2, f3, f4, f5⟩ := I1.fpOk (H' := H1) (b := s1.heap.objs.size) (Nat.le_refl _) (I1.hok.fresh (Nat.le_refl _))
  have hl := p'.isList
  obtain ⟨ol, hol, _⟩ := id hl
  have hne : a ≠ s1.heap.objs.size := Nat.ne_of_lt (Heap.lt_size hol)
  have hn : its.toArray.size ≤ sizeLine := by rw [List.size_toArray, ← rv.length]; exact hz
  refine lr_call (s := { s1 with heap := s1.heap.push (revObj a ((its.toArray.size : Int) - 1)) }) (I1.ok.hd hc) ⟨_, Heap.get?_push_size _ rfl, rfl, rfl⟩ (hl.push _) hne hn fun h' tk acc c' hk hS' hi => ?_
  have J := I2.turnedNew (ch := [s1.heap.objs.size]) (T := (s1.heap.push (revObj a ((its.toArray.size : Int) - 1))).objs.size) (ob := .lst xs.reverse) (h' := h') (t' := tk) (fun b o hb e => hk b o (fun z => hb (List.mem_singleton.mpr z)) e)
    (fun b hb => by
      rw [List.mem_singleton.mp hb]
      exact ⟨f0, f1, f2, f3, f4, f5⟩) (Nat.le_refl _)
    ⟨by rw [List.length_reverse]; exact hz, acc.toList, c', vals_rev rv hi, by rw [Array.toArray_toList]; exact hS'⟩
  exact ⟨.ref _, _, J, rfl, q _ (I2.hok.fresh (Nat.le_refl _))⟩
end
/-- o.f = v, as one of several targets -/
def gFld (K : PySem.W.Frag) (ta : TE) (f : Str) : TG := fun v σ H Q => sFld K ta (tC v) f ⟨Q, fun _ _ => False, Q, Q⟩ σ H
theorem pg_fldK {X : Cx} {K : PySem.W.Frag} {o : Expr} {f : Str} {pos : Pos} {ta : TE} (ha : PE X o ta) (hK : X.K = K := by rfl) : PG X (.Attribute o f pos) (gFld K ta f) := by
  subst hK
  refine ⟨fun pins s σ H v u Q I r h => ?_⟩
  rw [assign_Attribute]
  refine wpAny_bind (wpAny_holding (thn (ha.run pins s σ H _ I h) fun ov s1 ⟨x, H1, I1, rx, a, C, dx, fs, ex, ea, c, n, l, q2⟩ => ?_))
  subst ex
  obtain rfl : ov = Value.ref a := rx
  refine wpAny_bind (wpAny_standAt (wpAny_bind (wpAny_holding (setattr_ok I1 ea c n l r fun s3 I3 => wpAny_release ⟨σ, _, I3, q2⟩))))
theorem op_inDK {X : Cx} {K : PySem.W.Frag} (hu : X.A.units + 65 < cLine) (hK : X.K = K := by rfl) : OpR X (compareOp .In) (rInD K) := by subst hK; exact op_inD hu
theorem op_notInDK {X : Cx} {K : PySem.W.Frag} (hu : X.A.units + 65 < cLine) (hK : X.K = K := by rfl) : OpR X (compareOp .NotIn) (rNotInD K) := by subst hK; exact op_notInD hu
theorem room65 {k : Nat} {A : Around} (r : Room k A) : A.units + 65 < cLine := by have := r.un; omega
def rTupleOf (K : PySem.W.Frag) : List V → Hp → VK → Prop := fun xs H Q => ∃ p ys, xs = [V.ref p] ∧ ((SqL K H p ys ∧ ∀ (l : Addr), H l = none → Q (V.ref l) (upd H l (HO.tup ys))) ∨ (SqT K H p ys ∧ Q (V.ref p) H))
theorem call_tupleK {X : Cx} {K : PySem.W.Frag} (hK : X.K = K := by rfl) : CallR X (.type "tuple") (rTupleOf K) := by subst hK; exact call_tuple_of
end Hk

namespace Mi
open PySem PySem.Spec PyProof.Rows Hk
open L2 hiding Takes XE CX takes_of passes_call MkP PMk ps_raise mk_of ps_try_as passAt pmk_own
open L2N (Takes XE CX takes_of passes_call MkP PMk ps_raise mk_of ps_try_as passAt pmk_own)

/-! ## owned cells, as a multiset -/
abbrev Cell := Addr × HO
def Rs : Type := Quotient (List.isSetoid Cell)
namespace Rs
def of (l : List Cell) : Rs := Quotient.mk (List.isSetoid Cell) l
def add : Rs → Rs → Rs := Quotient.lift₂ (fun a b => of (a ++ b)) fun _ _ _ _ h1 h2 => Quotient.sound (List.Perm.append h1 h2)
instance : Add Rs := ⟨add⟩
instance : Zero Rs := ⟨of []⟩
def one (a : Addr) (o : HO) : Rs := of [(a, o)]
theorem of_add (a b : List Cell) : of a + of b = of (a ++ b) := rfl
theorem zero_def : (0 : Rs) = of [] := rfl
theorem ex (r : Rs) : ∃ l, r = of l := Quotient.exists_rep r |>.elim fun l h => ⟨l, h.symm⟩
theorem add_comm (a b : Rs) : a + b = b + a := by
  obtain ⟨a, rfl⟩ := ex a
  obtain ⟨b, rfl⟩ := ex b
  exact Quotient.sound List.perm_append_comm
theorem add_assoc (a b c : Rs) : a + b + c = a + (b + c) := by
  obtain ⟨a, rfl⟩ := ex a
  obtain ⟨b, rfl⟩ := ex b
  obtain ⟨c, rfl⟩ := ex c
  rw [of_add, of_add, of_add, of_add, List.append_assoc]
theorem zero_add (a : Rs) : 0 + a = a := by
  obtain ⟨a, rfl⟩ := ex a
  rfl
theorem add_zero (a : Rs) : a + 0 = a := by rw [add_comm, zero_add]
instance : Std.Associative (α := Rs) (· + ·) := ⟨add_assoc⟩
instance : Std.Commutative (α := Rs) (· + ·) := ⟨add_comm⟩
instance : Std.LawfulIdentity (α := Rs) (· + ·) 0 where
  left_id := zero_add
  right_id := add_zero
theorem perm_of {a b : List Cell} (h : of a = of b) : List.Perm a b := Quotient.exact h
theorem one_ne {a : Addr} {o : HO} {r : Rs} (h : (0 : Rs) = one a o + r) : False := by
  obtain ⟨l, rfl⟩ := ex r
  have := perm_of (show of [] = of ((a, o) :: l) from h)
  exact absurd this.length_eq (by simp)
theorem zero_of_add {a b : Rs} (h : (0 : Rs) = a + b) : a = 0 ∧ b = 0 := by
  obtain ⟨a, rfl⟩ := ex a
  obtain ⟨b, rfl⟩ := ex b
  have := perm_of (show of [] = of (a ++ b) from h)
  have l := this.length_eq
  rw [List.length_append] at l
  have h1 : a.length = 0 := by simp only [List.length_nil] at l; omega
  have h2 : b.length = 0 := by simp only [List.length_nil] at l; omega
  rw [List.length_eq_zero_iff.mp h1, List.length_eq_zero_iff.mp h2]
  exact ⟨rfl, rfl⟩
end Rs
/-- a part of -/
def Sub (a b : Rs) : Prop := ∃ u, b = a + u
theorem Sub.refl (a : Rs) : Sub a a := ⟨0, (Rs.add_zero a).symm⟩
theorem Sub.zero (a : Rs) : Sub 0 a := ⟨a, (Rs.zero_add a).symm⟩
theorem Sub.addl {a b : Rs} (c : Rs) (h : Sub a b) : Sub a (c + b) := by
  obtain ⟨u, rfl⟩ := h
  exact ⟨c + u, by ac_rfl⟩
theorem Sub.addr {a b : Rs} (c : Rs) (h : Sub a b) : Sub a (b + c) := by
  obtain ⟨u, rfl⟩ := h
  exact ⟨u + c, by ac_rfl⟩
theorem Sub.trans {a b c : Rs} (h : Sub a b) (k : Sub b c) : Sub a c := by
  obtain ⟨u, rfl⟩ := h
  obtain ⟨w, rfl⟩ := k
  exact ⟨u + w, by ac_rfl⟩

/-- the heap: B stays, the cells of r are owned -/
def Ok (B : Hp) (r : Rs) (H : Hp) : Prop := ∃ l, r = Rs.of l ∧ Wd B l H
section
variable {B H : Hp} {r s : Rs} {a p : Addr} {o u : HO}
theorem Ok.wd {l : List Cell} (h : Ok B (Rs.of l) H) : Wd B l H := by
  obtain ⟨k, e, h⟩ := h
  exact h.perm (Rs.perm_of e).symm
theorem Ok.of {l : List Cell} (h : Wd B l H) : Ok B (Rs.of l) H := ⟨l, rfl, h⟩
theorem Ok.cast (h : Ok B r H) (e : r = s) : Ok B s H := e ▸ h
theorem Ok.drop (h : Ok B (s + r) H) : Ok B r H := by
  obtain ⟨s, rfl⟩ := Rs.ex s
  obtain ⟨r, rfl⟩ := Rs.ex r
  exact .of ((Ok.wd (l := s ++ r) h).sub (List.sublist_append_right _ _))
theorem Ok.sub (h : Ok B r H) (k : Sub s r) : Ok B s H := by
  obtain ⟨u, rfl⟩ := k
  exact (h.cast (Rs.add_comm _ _)).drop
theorem Ok.at (h : Ok B r H) (k : Sub (Rs.one a o) r) : H a = some o := by
  obtain ⟨l, rfl⟩ := Rs.ex r
  obtain ⟨u, e⟩ := k
  obtain ⟨u, rfl⟩ := Rs.ex u
  have := Ok.wd (l := (a, o) :: u) (e ▸ h)
  exact this.at 0 rfl
theorem Ok.add (h : Ok B r H) (hp : H p = none) : Ok B (Rs.one p o + r) (upd H p o) := by
  obtain ⟨l, rfl⟩ := Rs.ex r
  exact .of (l := (p, o) :: l) (h.wd.add hp)
theorem Ok.put (h : Ok B (Rs.one a u + r) H) : Ok B (Rs.one a o + r) (upd H a o) := by
  obtain ⟨l, rfl⟩ := Rs.ex r
  exact .of (l := (a, o) :: l) ((Ok.wd (l := (a, u) :: l) h).put 0 rfl)
theorem Ok.freeze (h : Ok B (Rs.one p o + r) H) : Ok (upd B p o) r H := by
  obtain ⟨l, rfl⟩ := Rs.ex r
  exact .of (Ok.wd (l := (p, o) :: l) h).freeze
theorem Ok.frzSame (h : Ok B (Rs.one p o + r) H) : Same B (upd B p o) := by
  obtain ⟨l, rfl⟩ := Rs.ex r
  exact (Ok.wd (l := (p, o) :: l) h).frzSame
theorem Ok.same (h : Ok B r H) : Same B H := by
  obtain ⟨l, rfl⟩ := Rs.ex r
  exact h.wd.same
theorem Ok.baseNone (h : Ok B r H) (hp : H p = none) : B p = none := by
  obtain ⟨l, rfl⟩ := Rs.ex r
  exact h.wd.baseNone hp
end

/-! ## data -/
/-- a list: owned, frozen (nobody writes it), only to be read (the script, a module's list) -/
inductive Md where
  | o | f | r
  deriving DecidableEq
inductive D where
  | non | bl (b : Bool) | int (i : Int) | str (s : Str) | ty (n : String)
  | tup (ds : List D) | lst (o : Md) (ds : List D)
  | dic (o : Bool) (ks : List Key) (ds : List D)
  | fin (c : Str) (ns : List Str) (ds : List D)
  | obj (i : Nat)
structure Gd where
  K : PySem.W.Frag
  ca : Str → Addr
/-- io: the slots that keep their value, and it, where it is known -/
structure Gj extends Gd where
  io : List (Nat × Option V)
structure En where
  g : Gd
  wa : List Addr
  B : Hp
def En.le (n m : En) : Prop := m.g = n.g ∧ n.wa <+: m.wa ∧ Same n.B m.B
theorem En.le.refl (n : En) : n.le n := ⟨rfl, List.prefix_refl _, Same.refl _⟩
theorem En.le.trans {a b c : En} (h : a.le b) (k : b.le c) : a.le c := ⟨k.1.trans h.1, h.2.1.trans k.2.1, fun x o e => k.2.2 x o (h.2.2 x o e)⟩
def cp : D → Bool
  | .lst .o _ => false
  | .dic o _ _ => !o
  | _ => true
mutual
/-- what was owned stays as it is from now on -/
def frz : D → D
  | .tup ds => .tup ds
  | .lst .r ds => .lst .r ds
  | .lst _ ds => .lst .f (frzL ds)
  | .dic _ ks ds => .dic false ks (frzL ds)
  | d => d
def frzL : List D → List D
  | [] => []
  | d :: ds => frz d :: frzL ds
end
mutual
def Enc (n : En) : D → V → Rs → Prop
  | .non, v, r => v = .non ∧ r = 0
  | .bl b, v, r => v = .bl b ∧ r = 0
  | .int i, v, r => v = .int i ∧ r = 0
  | .str s, v, r => v = .str s ∧ r = 0
  | .ty t, v, r => v = .ty t ∧ r = 0
  | .tup ds, v, r => r = 0 ∧ ∃ a vs, v = .ref a ∧ SqT n.g.K n.B a vs ∧ EncL n ds vs 0
  | .lst .o ds, v, r => ∃ a vs r', v = .ref a ∧ r = Rs.one a (.lst vs) + r' ∧ EncL n ds vs r'
  | .lst .f ds, v, r => r = 0 ∧ ∃ a vs, v = .ref a ∧ n.B a = some (.lst vs) ∧ EncL n ds vs 0
  | .lst .r ds, v, r => r = 0 ∧ ∃ a vs, v = .ref a ∧ SqL n.g.K n.B a vs ∧ EncL n ds vs 0
  | .dic true ks ds, v, r => ∃ a vs r', v = .ref a ∧ r = Rs.one a (.dK (ks.zip vs)) + r' ∧ EncL n ds vs r' ∧ ks.length = ds.length
  | .dic false ks ds, v, r => r = 0 ∧ ∃ a vs, v = .ref a ∧ n.B a = some (.dK (ks.zip vs)) ∧ EncL n ds vs 0 ∧ ks.length = ds.length
  | .fin c ns ds, v, r => r = 0 ∧ ∃ a dx vs, v = .ref a ∧ n.B a = some (.ins (n.g.ca c) dx (ns.zip vs)) ∧ EncL n ds vs 0 ∧ ns.length = ds.length
  | .obj i, v, r => r = 0 ∧ ∃ a, v = .ref a ∧ n.wa[i]? = some a
def EncL (n : En) : List D → List V → Rs → Prop
  | [], vs, r => vs = [] ∧ r = 0
  | d :: ds, vs, r => ∃ v vs' r1 r2, vs = v :: vs' ∧ r = r1 + r2 ∧ Enc n d v r1 ∧ EncL n ds vs' r2
end
theorem pre_get {α : Type} {l m : List α} (h : l <+: m) {i : Nat} {a : α} (e : l[i]? = some a) : m[i]? = some a := by
  obtain ⟨t, rfl⟩ := h
  have := (List.getElem?_eq_some_iff.mp e).1
  rw [List.getElem?_append_left this]
  exact e
theorem Same.seqT {K : PySem.W.Frag} {H H' : Hp} {a : Addr} {xs : List V} (s : Same H H') (h : SqT K H a xs) : SqT K H' a xs := by
  rcases h with h | h
  · rcases h with h | ⟨o, h⟩
    · exact .inl (.inl (s _ _ h))
    · exact .inl (.inr ⟨o, s _ _ h⟩)
  · exact .inr h
mutual
theorem Enc.mono {n m : En} (l : n.le m) : ∀ {d : D} {v : V} {r : Rs}, Enc n d v r → Enc m d v r
  | .non, _, _, h => h
  | .bl _, _, _, h => h
  | .int _, _, _, h => h
  | .str _, _, _, h => h
  | .ty _, _, _, h => h
  | .tup ds, _, _, h => by
    obtain ⟨e, a, vs, e2, q, hl⟩ := h
    exact ⟨e, a, vs, e2, l.1 ▸ Same.seqT l.2.2 q, EncL.mono l hl⟩
  | .lst .o ds, _, _, h => by
    obtain ⟨a, vs, r', e, e2, hl⟩ := h
    exact ⟨a, vs, r', e, e2, EncL.mono l hl⟩
  | .lst .f ds, _, _, h => by
    obtain ⟨e, a, vs, e2, q, hl⟩ := h
    exact ⟨e, a, vs, e2, l.2.2 _ _ q, EncL.mono l hl⟩
  | .lst .r ds, _, _, h => by
    obtain ⟨e, a, vs, e2, q, hl⟩ := h
    exact ⟨e, a, vs, e2, l.1 ▸ Same.seq l.2.2 q, EncL.mono l hl⟩
  | .dic true ks ds, _, _, h => by
    obtain ⟨a, vs, r', e, e2, hl, k⟩ := h
    exact ⟨a, vs, r', e, e2, EncL.mono l hl, k⟩
  | .dic false ks ds, _, _, h => by
    obtain ⟨e, a, vs, e2, q, hl, k⟩ := h
    exact ⟨e, a, vs, e2, l.2.2 _ _ q, EncL.mono l hl, k⟩
  | .fin c ns ds, _, _, h => by
    obtain ⟨e, a, dx, vs, e2, q, hl, k⟩ := h
    exact ⟨e, a, dx, vs, e2, l.1 ▸ l.2.2 _ _ q, EncL.mono l hl, k⟩
  | .obj i, _, _, h => by
    obtain ⟨e, a, e2, q⟩ := h
    exact ⟨e, a, e2, pre_get l.2.1 q⟩
theorem EncL.mono {n m : En} (l : n.le m) : ∀ {ds : List D} {vs : List V} {r : Rs}, EncL n ds vs r → EncL m ds vs r
  | [], _, _, h => h
  | d :: ds, _, _, h => by
    obtain ⟨v, vs', r1, r2, e1, e2, h1, h2⟩ := h
    exact ⟨v, vs', r1, r2, e1, e2, Enc.mono l h1, EncL.mono l h2⟩
end

theorem EncL.len {n : En} : ∀ {ds : List D} {vs : List V} {r : Rs}, EncL n ds vs r → vs.length = ds.length
  | [], _, _, h => by rw [h.1]; rfl
  | d :: ds, _, _, h => by
    obtain ⟨v, vs', r1, r2, rfl, _, _, h2⟩ := h
    rw [List.length_cons, List.length_cons, EncL.len h2]
theorem Enc.cp {n : En} : ∀ {d : D} {v : V} {r : Rs}, Enc n d v r → cp d = true → r = 0
  | .non, _, _, h, _ => h.2
  | .bl _, _, _, h, _ => h.2
  | .int _, _, _, h, _ => h.2
  | .str _, _, _, h, _ => h.2
  | .ty _, _, _, h, _ => h.2
  | .tup _, _, _, h, _ => h.1
  | .lst .o _, _, _, _, c => absurd (show false = true from c) (by decide)
  | .lst .f _, _, _, h, _ => h.1
  | .lst .r _, _, _, h, _ => h.1
  | .dic true _ _, _, _, _, c => absurd (show false = true from c) (by decide)
  | .dic false _ _, _, _, h, _ => h.1
  | .fin _ _ _, _, _, h, _ => h.1
  | .obj _, _, _, h, _ => h.1
/-- all of a list may be copied -/
def cpL (ds : List D) : Bool := ds.all cp
theorem EncL.cp {n : En} : ∀ {ds : List D} {vs : List V} {r : Rs}, EncL n ds vs r → cpL ds = true → r = 0
  | [], _, _, h, _ => h.2
  | d :: ds, _, _, h, c => by
    obtain ⟨v, vs', r1, r2, _, rfl, h1, h2⟩ := h
    have c' : (Mi.cp d && cpL ds) = true := c
    rw [Bool.and_eq_true] at c'
    rw [Enc.cp h1 c'.1, EncL.cp h2 c'.2, Rs.zero_add]
theorem EncL.get {n : En} : ∀ {ds : List D} {vs : List V} {r : Rs} {i : Nat} {d : D}, EncL n ds vs r → ds[i]? = some d → ∃ v ri, vs[i]? = some v ∧ Enc n d v ri ∧ Sub ri r
  | [], _, _, _, _, _, e => by simp at e
  | d :: ds, _, _, 0, _, h, e => by
    obtain ⟨v, vs', r1, r2, rfl, rfl, h1, h2⟩ := h
    obtain rfl := Option.some.inj e
    exact ⟨v, r1, rfl, h1, r2, rfl⟩
  | d :: ds, _, _, i + 1, d', h, e => by
    obtain ⟨v, vs', r1, r2, rfl, rfl, h1, h2⟩ := h
    obtain ⟨v', ri, e1, e2, s⟩ := EncL.get (i := i) (d := d') h2 e
    exact ⟨v', ri, e1, e2, s.addl _⟩
theorem EncL.app {n : En} : ∀ {ds es : List D} {vs ws : List V} {r s : Rs}, EncL n ds vs r → EncL n es ws s → EncL n (ds ++ es) (vs ++ ws) (r + s)
  | [], _, _, _, _, _, h, k => by
    obtain ⟨rfl, rfl⟩ := h
    rw [Rs.zero_add]
    exact k
  | d :: ds, _, _, _, _, s, h, k => by
    obtain ⟨v, vs', r1, r2, rfl, rfl, h1, h2⟩ := h
    exact ⟨v, _, r1, r2 + s, rfl, Rs.add_assoc _ _ _, h1, EncL.app h2 k⟩
theorem EncL.unapp {n : En} : ∀ {ds es : List D} {vs : List V} {r : Rs}, EncL n (ds ++ es) vs r → ∃ vs1 vs2 r1 r2, vs = vs1 ++ vs2 ∧ r = r1 + r2 ∧ EncL n ds vs1 r1 ∧ EncL n es vs2 r2
  | [], _, vs, r, h => ⟨[], vs, 0, r, rfl, (Rs.zero_add r).symm, ⟨rfl, rfl⟩, h⟩
  | d :: ds, es, _, _, h => by
    obtain ⟨v, vs', r1, r2, rfl, rfl, h1, h2⟩ := h
    obtain ⟨a, b, x, y, rfl, rfl, h3, h4⟩ := EncL.unapp (ds := ds) (es := es) h2
    exact ⟨v :: a, b, r1 + x, y, rfl, (Rs.add_assoc _ _ _).symm, ⟨v, a, r1, x, rfl, rfl, h1, h3⟩, h4⟩
theorem EncL.take {n : En} : ∀ {ds : List D} {vs : List V} (k : Nat), EncL n ds vs 0 → EncL n (ds.take k) (vs.take k) 0
  | _, _, 0, _ => by rw [List.take_zero, List.take_zero]; exact ⟨rfl, rfl⟩
  | [], _, k + 1, h => by rw [h.1]; exact ⟨rfl, rfl⟩
  | d :: ds, _, k + 1, h => by
    obtain ⟨v, vs', r1, r2, rfl, e, h1, h2⟩ := h
    obtain ⟨rfl, rfl⟩ := Rs.zero_of_add e
    exact ⟨v, vs'.take k, 0, 0, rfl, e, h1, EncL.take k h2⟩
theorem EncL.drop {n : En} : ∀ {ds : List D} {vs : List V} (k : Nat), EncL n ds vs 0 → EncL n (ds.drop k) (vs.drop k) 0
  | _, _, 0, h => by rw [List.drop_zero, List.drop_zero]; exact h
  | [], _, k + 1, h => by rw [h.1]; exact ⟨rfl, rfl⟩
  | d :: ds, _, k + 1, h => by
    obtain ⟨v, vs', r1, r2, rfl, e, h1, h2⟩ := h
    obtain ⟨rfl, rfl⟩ := Rs.zero_of_add e
    exact EncL.drop k h2
theorem EncL.one {n : En} {d : D} {v : V} {r : Rs} (h : Enc n d v r) : EncL n [d] [v] r := ⟨v, [], r, 0, rfl, (Rs.add_zero r).symm, h, rfl, rfl⟩

/-! ## freezing -/
def En.put (n : En) (p : Addr) (o : HO) : En := { n with B := upd n.B p o }
mutual
theorem Enc.frz {n : En} {R : Rs} {H : Hp} : ∀ {d : D} {v : V} {r : Rs}, Enc n d v r → Ok n.B (r + R) H → ∃ m, n.le m ∧ m.wa = n.wa ∧ Enc m (frz d) v 0 ∧ Ok m.B R H
  | .non, _, _, h, k => ⟨n, En.le.refl n, rfl, ⟨h.1, rfl⟩, by rw [h.2, Rs.zero_add] at k; exact k⟩
  | .bl _, _, _, h, k => ⟨n, En.le.refl n, rfl, ⟨h.1, rfl⟩, by rw [h.2, Rs.zero_add] at k; exact k⟩
  | .int _, _, _, h, k => ⟨n, En.le.refl n, rfl, ⟨h.1, rfl⟩, by rw [h.2, Rs.zero_add] at k; exact k⟩
  | .str _, _, _, h, k => ⟨n, En.le.refl n, rfl, ⟨h.1, rfl⟩, by rw [h.2, Rs.zero_add] at k; exact k⟩
  | .ty _, _, _, h, k => ⟨n, En.le.refl n, rfl, ⟨h.1, rfl⟩, by rw [h.2, Rs.zero_add] at k; exact k⟩
  | .tup ds, _, _, h, k => ⟨n, En.le.refl n, rfl, ⟨rfl, h.2⟩, by rw [h.1, Rs.zero_add] at k; exact k⟩
  | .fin c ns ds, _, _, h, k => ⟨n, En.le.refl n, rfl, ⟨rfl, h.2⟩, by rw [h.1, Rs.zero_add] at k; exact k⟩
  | .obj i, _, _, h, k => ⟨n, En.le.refl n, rfl, ⟨rfl, h.2⟩, by rw [h.1, Rs.zero_add] at k; exact k⟩
  | .lst .o ds, _, _, h, k => by
    obtain ⟨a, vs, r', rfl, rfl, hl⟩ := h
    obtain ⟨m, l, ew, e, k2⟩ := EncL.frz hl (k.cast (show _ = r' + (Rs.one a (.lst vs) + R) by ac_rfl))
    refine ⟨m.put a (.lst vs), l.trans ⟨rfl, List.prefix_refl _, k2.frzSame⟩, ew, ⟨rfl, a, vs, rfl, upd_same, EncL.mono (n := m) (m := m.put a (.lst vs)) ⟨rfl, List.prefix_refl _, k2.frzSame⟩ e⟩, k2.freeze⟩
  | .lst .f ds, _, _, h, k => by
    obtain ⟨rfl, a, vs, rfl, q, hl⟩ := h
    rw [Rs.zero_add] at k
    obtain ⟨m, l, ew, e, k2⟩ := EncL.frz hl (show Ok n.B (0 + R) H by rw [Rs.zero_add]; exact k)
    exact ⟨m, l, ew, ⟨rfl, a, vs, rfl, l.2.2 _ _ q, e⟩, k2⟩
  | .lst .r ds, _, _, h, k => ⟨n, En.le.refl n, rfl, ⟨rfl, h.2⟩, by rw [h.1, Rs.zero_add] at k; exact k⟩
  | .dic true ks ds, _, _, h, k => by
    obtain ⟨a, vs, r', rfl, rfl, hl, kl⟩ := h
    obtain ⟨m, l, ew, e, k2⟩ := EncL.frz hl (k.cast (show _ = r' + (Rs.one a (.dK (ks.zip vs)) + R) by ac_rfl))
    refine ⟨m.put a (.dK (ks.zip vs)), l.trans ⟨rfl, List.prefix_refl _, k2.frzSame⟩, ew, ⟨rfl, a, vs, rfl, upd_same, EncL.mono (n := m) (m := m.put a (.dK (ks.zip vs))) ⟨rfl, List.prefix_refl _, k2.frzSame⟩ e, ?_⟩, k2.freeze⟩
    rw [← e.len, hl.len, kl]
  | .dic false ks ds, _, _, h, k => by
    obtain ⟨rfl, a, vs, rfl, q, hl, kl⟩ := h
    rw [Rs.zero_add] at k
    obtain ⟨m, l, ew, e, k2⟩ := EncL.frz hl (show Ok n.B (0 + R) H by rw [Rs.zero_add]; exact k)
    exact ⟨m, l, ew, ⟨rfl, a, vs, rfl, l.2.2 _ _ q, e, by rw [← e.len, hl.len, kl]⟩, k2⟩
theorem EncL.frz {n : En} {R : Rs} {H : Hp} : ∀ {ds : List D} {vs : List V} {r : Rs}, EncL n ds vs r → Ok n.B (r + R) H → ∃ m, n.le m ∧ m.wa = n.wa ∧ EncL m (frzL ds) vs 0 ∧ Ok m.B R H
  | [], _, _, h, k => ⟨n, En.le.refl n, rfl, ⟨h.1, rfl⟩, by rw [h.2, Rs.zero_add] at k; exact k⟩
  | d :: ds, _, _, h, k => by
    obtain ⟨v, vs', r1, r2, rfl, rfl, h1, h2⟩ := h
    obtain ⟨m, l, ew, e, k2⟩ := Enc.frz h1 (k.cast (Rs.add_assoc _ _ _))
    obtain ⟨m', l', ew', e', k2'⟩ := EncL.frz (EncL.mono l h2) k2
    exact ⟨m', l.trans l', ew'.trans ew, ⟨v, vs', 0, 0, rfl, (Rs.zero_add 0).symm, Enc.mono l' e, e'⟩, k2'⟩
end

/-! ## the state -/
structure Ob where
  c : Str
  ns : List Str
  ds : List D
/-- an instance of a class -/
def EncI (n : En) (o : Ob) (a : Addr) (r : Rs) : Prop := ∃ dx vs r', r = Rs.one a (.ins (n.g.ca o.c) dx (o.ns.zip vs)) + r' ∧ EncL n o.ds vs r' ∧ o.ns.length = o.ds.length
/-- a list or a dict that has an identity: a box of one tree -/
def bxN : Str := "[]"
def EncB (n : En) (o : Ob) (a : Addr) (r : Rs) : Prop := o.ns = [] ∧ ∃ d, o.ds = [d] ∧ Enc n d (.ref a) r
def EncO (n : En) (o : Ob) (a : Addr) (r : Rs) : Prop := (o.c ≠ bxN ∧ EncI n o a r) ∨ (o.c = bxN ∧ EncB n o a r)
def EncW (n : En) : List Ob → List Addr → Rs → Prop
  | [], as, r => as = [] ∧ r = 0
  | o :: os, as, r => ∃ a as' r1 r2, as = a :: as' ∧ r = r1 + r2 ∧ EncO n o a r1 ∧ EncW n os as' r2
def EncFr (n : En) : List (Option D) → List (Option V) → Rs → Prop
  | [], σ, r => σ = [] ∧ r = 0
  | none :: fr, σ, r => ∃ x σ', σ = x :: σ' ∧ EncFr n fr σ' r
  | some d :: fr, σ, r => ∃ v σ' r1 r2, σ = some v :: σ' ∧ r = r1 + r2 ∧ Enc n d v r1 ∧ EncFr n fr σ' r2
theorem EncO.mono {n m : En} (l : n.le m) {o : Ob} {a : Addr} {r : Rs} (h : EncO n o a r) : EncO m o a r := by
  rcases h with ⟨hc, dx, vs, r', e, h, k⟩ | ⟨hc, hn, d, e, h⟩
  · exact .inl ⟨hc, dx, vs, r', l.1 ▸ e, h.mono l, k⟩
  · exact .inr ⟨hc, hn, d, e, h.mono l⟩
theorem EncO.ins {n : En} {o : Ob} {a : Addr} {r : Rs} (h : EncO n o a r) (hc : o.c ≠ bxN) : EncI n o a r := by
  rcases h with ⟨_, h⟩ | ⟨z, _⟩
  · exact h
  · exact absurd z hc
theorem EncO.box {n : En} {o : Ob} {a : Addr} {r : Rs} (h : EncO n o a r) (hc : o.c = bxN) : EncB n o a r := by
  rcases h with ⟨z, _⟩ | ⟨_, h⟩
  · exact absurd hc z
  · exact h
theorem EncW.mono {n m : En} (l : n.le m) : ∀ {os : List Ob} {as : List Addr} {r : Rs}, EncW n os as r → EncW m os as r
  | [], _, _, h => h
  | o :: os, _, _, h => by
    obtain ⟨a, as', r1, r2, e1, e2, h1, h2⟩ := h
    exact ⟨a, as', r1, r2, e1, e2, h1.mono l, EncW.mono l h2⟩
theorem EncFr.mono {n m : En} (l : n.le m) : ∀ {fr : List (Option D)} {σ : List (Option V)} {r : Rs}, EncFr n fr σ r → EncFr m fr σ r
  | [], _, _, h => h
  | none :: fr, _, _, h => by
    obtain ⟨x, σ', e, h⟩ := h
    exact ⟨x, σ', e, EncFr.mono l h⟩
  | some d :: fr, _, _, h => by
    obtain ⟨v, σ', r1, r2, e1, e2, h1, h2⟩ := h
    exact ⟨v, σ', r1, r2, e1, e2, h1.mono l, EncFr.mono l h2⟩
theorem EncFr.len {n : En} : ∀ {fr : List (Option D)} {σ : List (Option V)} {r : Rs}, EncFr n fr σ r → σ.length = fr.length
  | [], _, _, h => by rw [h.1]; rfl
  | none :: fr, _, _, h => by
    obtain ⟨x, σ', rfl, h⟩ := h
    rw [List.length_cons, List.length_cons, EncFr.len h]
  | some d :: fr, _, _, h => by
    obtain ⟨v, σ', r1, r2, rfl, e2, h1, h2⟩ := h
    rw [List.length_cons, List.length_cons, EncFr.len h2]
theorem EncFr.get {n : En} : ∀ {fr : List (Option D)} {σ : List (Option V)} {r : Rs} {i : Nat} {d : D}, EncFr n fr σ r → fr[i]? = some (some d) → ∃ v ri, σ[i]? = some (some v) ∧ Enc n d v ri ∧ Sub ri r
  | [], _, _, _, _, _, e => by simp at e
  | none :: fr, _, _, 0, _, h, e => by cases e
  | none :: fr, _, _, i + 1, _, h, e => by
    obtain ⟨x, σ', rfl, h⟩ := h
    exact EncFr.get (i := i) h e
  | some d :: fr, _, _, 0, _, h, e => by
    obtain ⟨v, σ', r1, r2, rfl, rfl, h1, h2⟩ := h
    obtain rfl := Option.some.inj (Option.some.inj e)
    exact ⟨v, r1, rfl, h1, r2, rfl⟩
  | some d :: fr, _, _, i + 1, _, h, e => by
    obtain ⟨v, σ', r1, r2, rfl, rfl, h1, h2⟩ := h
    obtain ⟨v', ri, e1, e2, s⟩ := EncFr.get (i := i) h2 e
    exact ⟨v', ri, e1, e2, s.addl _⟩
/-- a slot may be filled anew: what was there is dropped -/
theorem EncFr.set {n : En} : ∀ {fr : List (Option D)} {σ : List (Option V)} {r : Rs} (i : Nat) {d : D} {v : V} {ri : Rs}, EncFr n fr σ r → Enc n d v ri → i < fr.length →
    ∃ r' old, EncFr n (fr.set i (some d)) (σ.set i (some v)) r' ∧ ri + r = old + r'
  | [], _, _, _, _, _, _, _, _, l => absurd l (by simp)
  | none :: fr, _, r, 0, d, v, ri, h, hd, _ => by
    obtain ⟨x, σ', rfl, h⟩ := h
    exact ⟨ri + r, 0, ⟨v, σ', ri, r, rfl, rfl, hd, h⟩, (Rs.zero_add _).symm⟩
  | none :: fr, _, _, i + 1, _, _, _, h, hd, l => by
    obtain ⟨x, σ', rfl, h⟩ := h
    obtain ⟨r', old, h', e⟩ := EncFr.set i h hd (by simpa using l)
    exact ⟨r', old, ⟨x, _, rfl, h'⟩, e⟩
  | some d0 :: fr, _, _, 0, d, v, ri, h, hd, _ => by
    obtain ⟨v0, σ', r1, r2, rfl, rfl, h1, h2⟩ := h
    exact ⟨ri + r2, r1, ⟨v, σ', ri, r2, rfl, rfl, hd, h2⟩, by ac_rfl⟩
  | some d0 :: fr, _, _, i + 1, _, _, ri, h, hd, l => by
    obtain ⟨v0, σ', r1, r2, rfl, rfl, h1, h2⟩ := h
    obtain ⟨r', old, h', e⟩ := EncFr.set i h2 hd (by simpa using l)
    refine ⟨r1 + r', old, ⟨v0, _, r1, r', rfl, rfl, h1, h'⟩, ?_⟩
    rw [show ri + (r1 + r2) = r1 + (ri + r2) by ac_rfl, e]
    ac_rfl
/-- the place of a slot's tree: it may be changed in place -/
theorem EncFr.take {n : En} : ∀ {fr : List (Option D)} {σ : List (Option V)} {r : Rs} (i : Nat) {d : D}, EncFr n fr σ r → fr[i]? = some (some d) →
    ∃ v ri rest, σ[i]? = some (some v) ∧ r = ri + rest ∧ Enc n d v ri ∧ ∀ m d' ri', n.le m → Enc m d' v ri' → EncFr m (fr.set i (some d')) σ (ri' + rest)
  | [], _, _, _, _, _, e => by simp at e
  | none :: fr, _, _, 0, _, h, e => by cases e
  | none :: fr, _, _, i + 1, _, h, e => by
    obtain ⟨x, σ', rfl, h⟩ := h
    obtain ⟨v, ri, rest, e1, e2, h1, k⟩ := EncFr.take i h e
    exact ⟨v, ri, rest, e1, e2, h1, fun m d' ri' l hd => ⟨x, σ', rfl, k m d' ri' l hd⟩⟩
  | some d :: fr, _, _, 0, _, h, e => by
    obtain ⟨v, σ', r1, r2, rfl, rfl, h1, h2⟩ := h
    obtain rfl := Option.some.inj (Option.some.inj e)
    exact ⟨v, r1, r2, rfl, rfl, h1, fun m d' ri' l hd => ⟨v, σ', ri', r2, rfl, rfl, hd, h2.mono l⟩⟩
  | some d :: fr, _, _, i + 1, _, h, e => by
    obtain ⟨v, σ', r1, r2, rfl, rfl, h1, h2⟩ := h
    obtain ⟨v', ri, rest, e1, e2, h3, k⟩ := EncFr.take i h2 e
    exact ⟨v', ri, r1 + rest, e1, by rw [e2]; ac_rfl, h3, fun m d' ri' l hd => ⟨v, σ', r1, ri' + rest, rfl, by ac_rfl, h1.mono l, k m d' ri' l hd⟩⟩

/-- wd: the objects with an identity; none where they are out of sight -/
structure MS where
  fr : List (Option D)
  wd : Option (List Ob)
/-- pn: slots that keep their value; pw: where the objects are out of sight, their places -/
structure Ct where
  io : List (Nat × Option V)
  pn : List (Nat × V)
  pw : Option (List Addr)
def EncWo (n : En) : Option (List Ob) → Rs → Prop
  | none, r => r = 0
  | some W, r => EncW n W n.wa r
def PwOk (n : En) (wd : Option (List Ob)) : Option (List Addr) → Prop
  | none => True
  | some w => wd = none ∧ n.wa = w
def PnOk : List (Nat × Option V) → List (Nat × V) → Prop
  | [], pn => pn = []
  | (i, o) :: io, pn => ∃ v pn', pn = (i, v) :: pn' ∧ (∀ w, o = some w → v = w) ∧ PnOk io pn'
def RelS (n : En) (c : Ct) (s : MS) (σ : L2.St) (R : Rs) : Prop :=
  ∃ rf rw, R = rf + rw ∧ EncFr n s.fr σ rf ∧ EncWo n s.wd rw ∧ ((∀ q ∈ c.pn, σ[q.1]? = some (some q.2)) ∧ PnOk c.io c.pn) ∧ PwOk n s.wd c.pw
theorem EncWo.mono {n m : En} (l : n.le m) (e : m.wa = n.wa) {wd : Option (List Ob)} {r : Rs} (h : EncWo n wd r) : EncWo m wd r := by
  cases wd with
  | none => exact h
  | some W =>
    show EncW m W m.wa r
    rw [e]
    exact EncW.mono l h
theorem RelS.mono {n m : En} {c : Ct} {s : MS} {σ : L2.St} {R : Rs} (l : n.le m) (e : m.wa = n.wa) (h : RelS n c s σ R) : RelS m c s σ R := by
  obtain ⟨rf, rw', e1, h1, h2, h3, h4⟩ := h
  refine ⟨rf, rw', e1, h1.mono l, h2.mono l e, h3, ?_⟩
  cases hc : c.pw with
  | none => trivial
  | some w =>
    rw [hc] at h4
    exact ⟨h4.1, e.trans h4.2⟩
/-- a slot's tree is taken out, put in -/
theorem EncFr.out {n : En} : ∀ {fr : List (Option D)} {σ : List (Option V)} {r : Rs} (i : Nat) {d : D}, EncFr n fr σ r → fr[i]? = some (some d) →
    ∃ v ri rest, σ[i]? = some (some v) ∧ r = ri + rest ∧ Enc n d v ri ∧ EncFr n (fr.set i none) σ rest
  | [], _, _, _, _, _, e => by simp at e
  | none :: fr, _, _, 0, _, h, e => by cases e
  | none :: fr, _, _, i + 1, _, h, e => by
    obtain ⟨x, σ', rfl, h⟩ := h
    obtain ⟨v, ri, rest, e1, e2, h1, k⟩ := EncFr.out i h e
    exact ⟨v, ri, rest, e1, e2, h1, x, σ', rfl, k⟩
  | some d :: fr, _, _, 0, _, h, e => by
    obtain ⟨v, σ', r1, r2, rfl, rfl, h1, h2⟩ := h
    obtain rfl := Option.some.inj (Option.some.inj e)
    exact ⟨v, r1, r2, rfl, rfl, h1, some v, σ', rfl, h2⟩
  | some d :: fr, _, _, i + 1, _, h, e => by
    obtain ⟨v, σ', r1, r2, rfl, rfl, h1, h2⟩ := h
    obtain ⟨v', ri, rest, e1, e2, h3, k⟩ := EncFr.out i h2 e
    exact ⟨v', ri, r1 + rest, e1, by rw [e2]; ac_rfl, h3, v, σ', r1, rest, rfl, rfl, h1, k⟩
theorem EncFr.into {n : En} : ∀ {fr : List (Option D)} {σ : List (Option V)} {r : Rs} (i : Nat) {d : D} {v : V} {ri : Rs}, EncFr n fr σ r → fr[i]? = some none → σ[i]? = some (some v) → Enc n d v ri →
    EncFr n (fr.set i (some d)) σ (ri + r)
  | [], _, _, _, _, _, _, _, e, _, _ => by simp at e
  | none :: fr, _, r, 0, _, _, ri, h, _, ev, hd => by
    obtain ⟨x, σ', rfl, h⟩ := h
    obtain rfl := Option.some.inj ev
    exact ⟨_, σ', ri, r, rfl, rfl, hd, h⟩
  | none :: fr, _, _, i + 1, _, _, _, h, e, ev, hd => by
    obtain ⟨x, σ', rfl, h⟩ := h
    exact ⟨x, σ', rfl, EncFr.into i h e ev hd⟩
  | some d :: fr, _, _, 0, _, _, _, h, e, _, _ => by cases e
  | some d :: fr, _, _, i + 1, _, _, ri, h, e, ev, hd => by
    obtain ⟨v, σ', r1, r2, rfl, rfl, h1, h2⟩ := h
    exact ⟨v, σ', r1, ri + r2, rfl, by ac_rfl, h1, EncFr.into i h2 e ev hd⟩
/-- what is known of a slot may be forgotten -/
theorem EncFr.forget {n : En} : ∀ {fr : List (Option D)} {σ : List (Option V)} {r : Rs} (i : Nat) (x : Option V), EncFr n fr σ r → ∃ r' old, EncFr n (fr.set i none) (σ.set i x) r' ∧ r = old + r'
  | [], _, _, _, _, h => ⟨0, 0, ⟨by rw [h.1]; rfl, rfl⟩, by rw [h.2, Rs.add_zero]⟩
  | none :: fr, _, r, 0, x, h => by
    obtain ⟨y, σ', rfl, h⟩ := h
    exact ⟨r, 0, ⟨x, σ', rfl, h⟩, (Rs.zero_add _).symm⟩
  | none :: fr, _, _, i + 1, x, h => by
    obtain ⟨y, σ', rfl, h⟩ := h
    obtain ⟨r', old, h', e⟩ := EncFr.forget i x h
    exact ⟨r', old, ⟨y, _, rfl, h'⟩, e⟩
  | some d :: fr, _, _, 0, x, h => by
    obtain ⟨v, σ', r1, r2, rfl, rfl, h1, h2⟩ := h
    exact ⟨r2, r1, ⟨x, σ', rfl, h2⟩, rfl⟩
  | some d :: fr, _, _, i + 1, x, h => by
    obtain ⟨v, σ', r1, r2, rfl, rfl, h1, h2⟩ := h
    obtain ⟨r', old, h', e⟩ := EncFr.forget i x h2
    exact ⟨r1 + r', old, ⟨v, _, r1, r', rfl, rfl, h1, h'⟩, by rw [e]; ac_rfl⟩
/-- a list that is read -/
theorem Enc.seq {n : En} {m : Md} {ds : List D} {v : V} {r T : Rs} {H : Hp} (h : Enc n (.lst m ds) v r) (o : Ok n.B T H) (s : Sub r T) :
    ∃ a vs r', v = .ref a ∧ SqL n.g.K H a vs ∧ EncL n ds vs r' ∧ Sub r' T ∧ (m ≠ .r → H a = some (.lst vs)) := by
  cases m with
  | o =>
    obtain ⟨a, vs, r', rfl, rfl, hl⟩ := h
    have e : H a = some (.lst vs) := o.at (Sub.trans ⟨r', rfl⟩ s)
    exact ⟨a, vs, r', rfl, .inl (.inl e), hl, Sub.trans ⟨Rs.one a (.lst vs), by ac_rfl⟩ s, fun _ => e⟩
  | f =>
    obtain ⟨rfl, a, vs, rfl, q, hl⟩ := h
    have e : H a = some (.lst vs) := o.same _ _ q
    exact ⟨a, vs, 0, rfl, .inl (.inl e), hl, Sub.zero _, fun _ => e⟩
  | r =>
    obtain ⟨rfl, a, vs, rfl, q, hl⟩ := h
    exact ⟨a, vs, 0, rfl, Same.seq o.same q, hl, Sub.zero _, fun z => absurd rfl z⟩
theorem Enc.tup {n : En} {ds : List D} {v : V} {r T : Rs} {H : Hp} (h : Enc n (.tup ds) v r) (o : Ok n.B T H) : ∃ a vs, v = .ref a ∧ SqT n.g.K H a vs ∧ EncL n ds vs 0 := by
  obtain ⟨rfl, a, vs, rfl, q, hl⟩ := h
  exact ⟨a, vs, rfl, Same.seqT o.same q, hl⟩
mutual
def dat : D → Option PyData
  | .non => some .none
  | .bl b => some (.bool b)
  | .int i => some (.int i)
  | .str s => some (.str s)
  | .tup ds => (datL ds).map .tuple
  | .lst _ ds => (datL ds).map .list
  | _ => none
def datL : List D → Option (List PyData)
  | [] => some []
  | d :: ds => match dat d, datL ds with
    | some x, some xs => some (x :: xs)
    | _, _ => none
end
mutual
theorem Enc.dp {n : En} {T : Rs} {H : Hp} (o : Ok n.B T H) : ∀ {d : D} {v : V} {r : Rs} {x : PyData}, Enc n d v r → Sub r T → dat d = some x → Dp n.g.K H v x
  | .non, _, _, _, h, _, e => by
    obtain ⟨rfl, _⟩ := h
    cases e
    exact .non
  | .bl _, _, _, _, h, _, e => by
    obtain ⟨rfl, _⟩ := h
    cases e
    exact .bl _
  | .int _, _, _, _, h, _, e => by
    obtain ⟨rfl, _⟩ := h
    cases e
    exact .int _
  | .str _, _, _, _, h, _, e => by
    obtain ⟨rfl, _⟩ := h
    cases e
    exact .str _
  | .tup ds, _, _, x, h, s, e => by
    obtain ⟨a, vs, rfl, q, hl⟩ := h.tup o
    have e' : (datL ds).map PyData.tuple = some x := e
    cases ed : datL ds with
    | none => rw [ed] at e'; cases e'
    | some xs =>
      rw [ed] at e'
      cases e'
      exact .tup q (EncL.dp o hl (Sub.zero _) ed)
  | .lst m ds, _, _, x, h, s, e => by
    obtain ⟨a, vs, r', rfl, q, hl, s', _⟩ := h.seq o s
    have e' : (datL ds).map PyData.list = some x := e
    cases ed : datL ds with
    | none => rw [ed] at e'; cases e'
    | some xs =>
      rw [ed] at e'
      cases e'
      exact .lst q (EncL.dp o hl s' ed)
  | .ty _, _, _, _, _, _, e => by cases e
  | .dic _ _ _, _, _, _, _, _, e => by cases e
  | .fin _ _ _, _, _, _, _, _, e => by cases e
  | .obj _, _, _, _, _, _, e => by cases e
theorem EncL.dp {n : En} {T : Rs} {H : Hp} (o : Ok n.B T H) : ∀ {ds : List D} {vs : List V} {r : Rs} {xs : List PyData}, EncL n ds vs r → Sub r T → datL ds = some xs → DpAll n.g.K H vs xs
  | [], _, _, _, h, _, e => by
    obtain ⟨rfl, _⟩ := h
    cases e
    exact .nil
  | d :: ds, _, _, _, h, s, e => by
    obtain ⟨v, vs', r1, r2, rfl, rfl, h1, h2⟩ := h
    unfold datL at e
    cases e1 : dat d with
    | none => rw [e1] at e; cases e
    | some x =>
      cases e2 : datL ds with
      | none => rw [e1, e2] at e; cases e
      | some xs =>
        rw [e1, e2] at e
        cases e
        exact .cons (Enc.dp o h1 (Sub.trans ⟨r2, rfl⟩ s) e1) (EncL.dp o h2 (Sub.trans ⟨r1, by ac_rfl⟩ s) e2)
end
theorem pg {g : Gj} {n m : En} {c : Ct} (l : n.le m) (h : n.g = g.toGd ∧ c.io = g.io) : m.g = g.toGd ∧ c.io = g.io := ⟨l.1.trans h.1, h.2⟩
theorem PnOk.keys : ∀ {io : List (Nat × Option V)} {pn : List (Nat × V)}, PnOk io pn → pn.map Prod.fst = io.map Prod.fst
  | [], _, h => by rw [h]; rfl
  | (i, o) :: io, _, h => by
    obtain ⟨v, pn', rfl, _, h⟩ := h
    rw [List.map_cons, List.map_cons, PnOk.keys h]
theorem PnOk.val : ∀ {io : List (Nat × Option V)} {pn : List (Nat × V)} {i : Nat} {w : V}, PnOk io pn → (i, some w) ∈ io → (i, w) ∈ pn
  | [], _, _, _, _, m => by cases m
  | (j, o) :: io, _, i, w, h, m => by
    obtain ⟨v, pn', rfl, k, h⟩ := h
    rcases List.mem_cons.mp m with e | m
    · obtain ⟨rfl, rfl⟩ := Prod.mk.inj e
      rw [k w rfl]
      exact List.mem_cons_self
    · exact List.mem_cons_of_mem _ (PnOk.val h m)
end Mi

namespace Mi
open PySem PySem.Spec PyProof.Rows Hk
open L2 hiding Takes XE CX takes_of passes_call MkP PMk ps_raise mk_of ps_try_as passAt pmk_own
open L2N (Takes XE CX takes_of passes_call MkP PMk ps_raise mk_of ps_try_as passAt pmk_own)
/-! ## mirrors and judgements -/
structure Exn where
  c : Str
inductive Rz (α : Type) where
  | ok (a : α) (s : MS) | er (e : Exn) (s : MS) | bad
abbrev M (α : Type) := MS → Rz α
def Rz.bind {α β : Type} (r : Rz α) (f : α → MS → Rz β) : Rz β := match r with
  | .ok a s => f a s
  | .er e s => .er e s
  | .bad => .bad
@[simp] theorem Rz.bind_ok {α β : Type} (a : α) (s : MS) (f : α → MS → Rz β) : (Rz.ok a s).bind f = f a s := rfl
@[simp] theorem Rz.bind_er {α β : Type} (e : Exn) (s : MS) (f : α → MS → Rz β) : (Rz.er e s).bind f = .er e s := rfl
@[simp] theorem Rz.bind_bad {α β : Type} (f : α → MS → Rz β) : (Rz.bad : Rz α).bind f = .bad := rfl
def mOpt {α : Type} (o : Option α) (s : MS) : Rz α := match o with
  | some a => .ok a s
  | none => .bad
@[simp] theorem mOpt_some {α : Type} (a : α) (s : MS) : mOpt (some a) s = .ok a s := rfl
@[simp] theorem mOpt_none {α : Type} (s : MS) : mOpt (none : Option α) s = .bad := rfl
inductive Kd where
  | E | F | C
def Kd.ok (k : Kd) (n : En) (d : D) (v : V) (R Mr : Rs) (H : Hp) : Prop := match k with
  | .E => ∃ t r, Enc n d v r ∧ Sub r (t + R) ∧ Ok n.B (t + (R + Mr)) H
  | .F => ∃ r, Enc n d v r ∧ Ok n.B (r + (R + Mr)) H
  | .C => Enc n d v 0 ∧ Ok n.B (R + Mr) H
def Post (g : Gj) (W : WX) (p : Bool) (pn : Ct) (n : En) (s : MS) (σ : L2.St) (R Mr : Rs) {α : Type} (fin : α → En → Rs → Hp → Prop) : Rz α → Prop
  | .bad => False
  | .ok a s' => ∀ n' R' H', n.le n' → (p = true → n'.wa = n.wa ∧ R' = R ∧ s' = s) → RelS n' pn s' σ R' → fin a n' R' H'
  | .er e s' => ∀ n' R' H', n.le n' → RelS n' pn s' σ R' → Ok n'.B (R' + Mr) H' → W (.ref (g.ca e.c)) none σ H'
def finE (k : Kd) (Mr : Rs) (Q : VK) : D → En → Rs → Hp → Prop := fun d n R H => ∀ v, k.ok n d v R Mr H → Q v H
def finB {α : Type} (Mr : Rs) (Q : α → Hp → Prop) : α → En → Rs → Hp → Prop := fun b n R H => Ok n.B (R + Mr) H → Q b H
def finA (Mr : Rs) (Q : List V → Hp → Prop) : List D → En → Rs → Hp → Prop := fun ds n R H => ∀ vs, EncL n ds vs 0 → Ok n.B (R + Mr) H → Q vs H
def Pre (g : Gj) (n : En) (pn : Ct) (s : MS) (σ : L2.St) (R Mr : Rs) (H : Hp) : Prop := (n.g = g.toGd ∧ pn.io = g.io) ∧ RelS n pn s σ R ∧ Ok n.B (R + Mr) H
def tE (g : Gj) (W : WX) (k : Kd) (p : Bool) (m : M D) : TE := fun σ H Q => ∃ n pn s R Mr, Pre g n pn s σ R Mr H ∧ Post g W p pn n s σ R Mr (finE k Mr Q) (m s)
def tB (g : Gj) (W : WX) (p : Bool) (m : M Bool) : TT := fun σ H Q => ∃ n pn s R Mr, Pre g n pn s σ R Mr H ∧ Post g W p pn n s σ R Mr (finB Mr Q) (m s)
def tA (g : Gj) (W : WX) (p : Bool) (m : M (List D)) : TA := fun σ H Q => ∃ n pn s R Mr, Pre g n pn s σ R Mr H ∧ Post g W p pn n s σ R Mr (finA Mr Q) (m s)
def SE (X : Cx) (g : Gj) (W : WX) (k : Kd) (p : Bool) (e : Expr) (m : M D) : Prop := PE X e (tE g W k p m)
def ST (X : Cx) (g : Gj) (W : WX) (p : Bool) (e : Expr) (m : M Bool) : Prop := PT X e (tB g W p m)
def SW (X : Cx) (g : Gj) (W : WX) (p : Bool) (e : Expr) (m : M Bool) : Prop := PW X e (tB g W p m)
def SA (X : Cx) (g : Gj) (W : WX) (p : Bool) (es : List Expr) (m : M (List D)) : Prop := PA X es (tA g W p m)
inductive Fl where
  | nx | rt (d : D) | bk | ct
def PostS (g : Gj) (W : WX) (pn : Ct) (n : En) (Mr : Rs) (Dn : Ends) : Rz Fl → Prop
  | .bad => False
  | .ok .nx s' => ∀ n' R' H' σ', n.le n' → RelS n' pn s' σ' R' → Ok n'.B (R' + Mr) H' → Dn.nx σ' H'
  | .ok .bk s' => ∀ n' R' H' σ', n.le n' → RelS n' pn s' σ' R' → Ok n'.B (R' + Mr) H' → Dn.bk σ' H'
  | .ok .ct s' => ∀ n' R' H' σ', n.le n' → RelS n' pn s' σ' R' → Ok n'.B (R' + Mr) H' → Dn.ct σ' H'
  | .ok (.rt d) s' => ∀ n' R' H' σ' v r, n.le n' → RelS n' pn s' σ' R' → Enc n' d v r → Ok n'.B (r + (R' + Mr)) H' → Dn.rt v H'
  | .er e s' => ∀ n' R' H' σ', n.le n' → RelS n' pn s' σ' R' → Ok n'.B (R' + Mr) H' → W (.ref (g.ca e.c)) none σ' H'
def tS (g : Gj) (W : WX) (m : M Fl) : TS := fun Dn σ H => ∃ n pn s R Mr, Pre g n pn s σ R Mr H ∧ PostS g W pn n Mr Dn (m s)
def SS (X : Cx) (g : Gj) (W : WX) (st : Stmt) (m : M Fl) : Prop := PS X st (tS g W m)
def SSs (X : Cx) (g : Gj) (W : WX) (st : List Stmt) (m : M Fl) : Prop := PSs X st (tS g W m)

theorem PE.imp {X : Cx} {e : Expr} {t t' : TE} (h : PE X e t) (k : ∀ σ H Q, t' σ H Q → t σ H Q) : PE X e t' := ⟨fun pins s σ H Q I q => h.run pins s σ H Q I (k _ _ _ q)⟩
theorem PT.imp {X : Cx} {e : Expr} {t t' : TT} (h : PT X e t) (k : ∀ σ H Q, t' σ H Q → t σ H Q) : PT X e t' := ⟨fun pins s σ H Q I q => h.run pins s σ H Q I (k _ _ _ q)⟩
theorem PW.imp {X : Cx} {e : Expr} {t t' : TT} (h : PW X e t) (k : ∀ σ H Q, t' σ H Q → t σ H Q) : PW X e t' := ⟨fun w pins s σ H Q I q => h.run w pins s σ H Q I (k _ _ _ q)⟩
theorem PA.imp {X : Cx} {e : List Expr} {t t' : TA} (h : PA X e t) (k : ∀ σ H Q, t' σ H Q → t σ H Q) : PA X e t' := ⟨fun po pins s σ H Q I q => h.run po pins s σ H Q I (k _ _ _ q)⟩
theorem PS.imp {X : Cx} {e : Stmt} {t t' : TS} (h : PS X e t) (k : ∀ D σ H, t' D σ H → t D σ H) : PS X e t' := ⟨fun pins s σ H D I q => h.run pins s σ H D I (k _ _ _ q)⟩
theorem PSs.imp {X : Cx} {e : List Stmt} {t t' : TS} (h : PSs X e t) (k : ∀ D σ H, t' D σ H → t D σ H) : PSs X e t' := ⟨fun pins s σ H D I q => h.run pins s σ H D I (k _ _ _ q)⟩

section
variable {g : Gj} {W : WX} {p pa pb : Bool} {pn : Ct} {n n' : En} {s : MS} {σ : L2.St} {R Mr : Rs} {H : Hp}
theorem Post.mono {α β : Type} {fin : α → En → Rs → Hp → Prop} {fin' : β → En → Rs → Hp → Prop} {r : Rz α} {f : α → MS → Rz β} (h : Post g W p pn n s σ R Mr fin' (r.bind f))
    (k : ∀ a s' n' R' H', n.le n' → (p = true → n'.wa = n.wa ∧ R' = R ∧ s' = s) → RelS n' pn s' σ R' → Post g W p pn n s σ R Mr fin' (f a s') → fin a n' R' H') : Post g W p pn n s σ R Mr fin r := by
  cases r with
  | bad => exact h
  | er e s' => exact h
  | ok a s' => exact fun n' R' H' l e r => k a s' n' R' H' l e r h
/-- from a later state: the wishes of the start hold there -/
theorem Post.from {α : Type} {fin : α → En → Rs → Hp → Prop} {fin' : α → En → Rs → Hp → Prop} {r : Rz α} {s1 : MS} {R1 Mr' : Rs} (l : n.le n') (ep : pa = true → n'.wa = n.wa ∧ R1 = R ∧ s1 = s)
    (h : Post g W (pa && pb) pn n s σ R Mr fin r) (km : Sub Mr Mr') (k : ∀ a n2 R2 H2, n'.le n2 → fin a n2 R2 H2 → fin' a n2 R2 H2) : Post g W pb pn n' s1 σ R1 Mr' fin' r := by
  cases r with
  | bad => exact h
  | er e s' =>
    intro n2 R2 H2 l2 r2 o2
    obtain ⟨u, rfl⟩ := km
    exact h n2 R2 H2 (l.trans l2) r2 ((o2.cast (show _ = u + (R2 + Mr) by ac_rfl)).drop)
  | ok a s' =>
    intro n2 R2 H2 l2 e2 r2
    refine k a n2 R2 H2 l2 (h n2 R2 H2 (l.trans l2) (fun z => ?_) r2)
    rw [Bool.and_eq_true] at z
    obtain ⟨a1, a2, a3⟩ := ep z.1
    obtain ⟨b1, b2, b3⟩ := e2 z.2
    exact ⟨b1.trans a1, b2.trans a2, b3.trans a3⟩
theorem Post.p0 {α : Type} {fin : α → En → Rs → Hp → Prop} {r : Rz α} (h : Post g W false pn n s σ R Mr fin r) : Post g W p pn n s σ R Mr fin r := by
  cases r with
  | bad => exact h
  | er e s' => exact h
  | ok a s' => exact fun n' R' H' l e r => h n' R' H' l (fun z => absurd z Bool.false_ne_true) r
end
/-! ### kinds -/
section
variable {X : Cx} {g : Gj} {W : WX} {k : Kd} {p : Bool} {e : Expr} {m : M D}
theorem kFE {n : En} {d : D} {v : V} {R Mr : Rs} {H : Hp} (h : Kd.F.ok n d v R Mr H) : Kd.E.ok n d v R Mr H := by
  obtain ⟨r, h1, h2⟩ := h
  exact ⟨r, r, h1, ⟨R, rfl⟩, h2⟩
theorem kCF {n : En} {d : D} {v : V} {R Mr : Rs} {H : Hp} (h : Kd.C.ok n d v R Mr H) : Kd.F.ok n d v R Mr H := ⟨0, h.1, by rw [Rs.zero_add]; exact h.2⟩
theorem SE.kd {k' : Kd} (h : SE X g W k p e m) (hk : ∀ n d v R Mr H, k.ok n d v R Mr H → k'.ok n d v R Mr H) : SE X g W k' p e m := PE.imp h fun σ H Q ⟨n, pn, s, R, Mr, pr, q⟩ => ⟨n, pn, s, R, Mr, pr, by
  cases hm : m s with
  | bad => rw [hm] at q; exact q
  | er e s' => rw [hm] at q; exact q
  | ok a s' =>
    rw [hm] at q
    exact fun n' R' H' l e r v o => q n' R' H' l e r v (hk _ _ _ _ _ _ o)⟩
theorem SE.fe (h : SE X g W .F p e m) : SE X g W .E p e m := h.kd fun _ _ _ _ _ _ => kFE
theorem SE.cf (h : SE X g W .C p e m) : SE X g W .F p e m := h.kd fun _ _ _ _ _ _ => kCF
theorem SE.ce (h : SE X g W .C p e m) : SE X g W .E p e m := h.cf.fe
theorem SE.np (h : SE X g W k p e m) : SE X g W k false e m := PE.imp h fun σ H Q ⟨n, pn, s, R, Mr, pr, q⟩ => ⟨n, pn, s, R, Mr, pr, q.p0⟩
def mFrz (m : M D) : M D := fun s => (m s).bind fun d s' => .ok (frz d) s'
def mCp (m : M D) : M D := fun s => (m s).bind fun d s' => if cp d then .ok d s' else .bad
theorem SE.fc (h : SE X g W .F p e m) : SE X g W .C p e (mFrz m) := PE.imp h fun σ H Q ⟨n, pn, s, R, Mr, pr, q⟩ => by
  refine ⟨n, pn, s, R, Mr, pr, Post.mono q fun d s' n' R' H' l ep rl q v o => ?_⟩
  obtain ⟨r, h1, h2⟩ := o
  obtain ⟨m', l', ew, h3, h4⟩ := h1.frz h2
  exact q m' R' H' (l.trans l') (fun z => ⟨ew.trans (ep z).1, (ep z).2⟩) (rl.mono l' ew) v ⟨h3, h4⟩
theorem SE.ec (h : SE X g W .E p e m) : SE X g W .C p e (mCp m) := PE.imp h fun σ H Q ⟨n, pn, s, R, Mr, pr, q⟩ => by
  refine ⟨n, pn, s, R, Mr, pr, Post.mono q fun d s' n' R' H' l ep rl q v o => ?_⟩
  obtain ⟨t, r, h1, h2, h3⟩ := o
  cases c : cp d with
  | false => rw [c] at q; exact False.elim q
  | true =>
    rw [c] at q
    have e := h1.cp c
    subst e
    exact q n' R' H' l ep rl v ⟨h1, h3.drop⟩
end
/-! ### expressions -/
section
variable {X : Cx} {g : Gj} {W : WX} {p pa pb : Bool} {a b e : Expr} {ma mb : M D} {pos : Pos}
def mC (d : D) : M D := fun s => .ok d s
def mVar (i : Nat) : M D := fun s => match s.fr[i]? with
  | some (some d) => .ok d s
  | _ => .bad
theorem se_var {i : Nat} {x : Str} (hN : X.N[i]? = some x) (hv : Vis X.env.scope x) (hd : (x == ("__debug__" : Str)) = false := by decide) (hcd : (x == ("__classdict__" : Str)) = false := by decide) : SE X g W .E true (.Name x pos) (mVar i) :=
  PE.imp (pe_var hN hv hd hcd) fun σ H Q ⟨n, pn, s, R, Mr, ⟨hg, rl, ok⟩, q⟩ => by
    unfold mVar at q
    cases hm : s.fr[i]? with
    | none => rw [hm] at q; exact False.elim q
    | some o =>
      cases o with
      | none => rw [hm] at q; exact False.elim q
      | some d =>
        rw [hm] at q
        obtain ⟨rf, rw', e, h1, h2, h3, h4⟩ := id rl
        obtain ⟨v, ri, e1, e2, e3⟩ := h1.get hm
        refine ⟨v, e1, q n R H (En.le.refl n) (fun _ => ⟨rfl, rfl, rfl⟩) rl v ⟨0, ri, e2, ?_, by rw [Rs.zero_add]; exact ok⟩⟩
        rw [Rs.zero_add, e]
        exact e3.addr _
theorem se_const {d : D} {v : V} (h : PE X e (tC v)) (hd : ∀ n : En, Enc n d v 0) : SE X g W .C true e (mC d) :=
  PE.imp h fun σ H Q ⟨n, pn, s, R, Mr, ⟨hg, rl, ok⟩, q⟩ => q n R H (En.le.refl n) (fun _ => ⟨rfl, rfl, rfl⟩) rl v ⟨hd n, ok⟩
theorem se_int {i j} : SE X g W .C true (.Constant (.int i) j pos) (mC (.int i)) := se_const pe_int fun _ => ⟨rfl, rfl⟩
theorem se_bl {i j} : SE X g W .C true (.Constant (.bool i) j pos) (mC (.bl i)) := se_const pe_bl fun _ => ⟨rfl, rfl⟩
theorem se_str {i j} : SE X g W .C true (.Constant (.str i) j pos) (mC (.str i)) := se_const pe_str fun _ => ⟨rfl, rfl⟩
theorem se_non {j} : SE X g W .C true (.Constant .none j pos) (mC .non) := se_const pe_non fun _ => ⟨rfl, rfl⟩

/-- what of two operands is at hand -/
theorem two {α : Type} {fin : α → En → Rs → Hp → Prop} {n : En} {pn : Ct} {s : MS} {σ : L2.St} {R Mr : Rs} {H : Hp} {F : D → D → MS → Rz α} {K : V → V → Hp → Prop} (pr : Pre g n pn s σ R Mr H)
    (h : Post g W (pa && pb) pn n s σ R Mr fin ((ma s).bind fun d1 s1 => (mb s1).bind fun d2 s2 => if (pb || cp d1) = true then F d1 d2 s2 else .bad))
    (k : ∀ n2 s2 R2 T H2 d1 v1 r1 d2 v2 r2, n.le n2 → n2.g = g.toGd → ((pa && pb) = true → n2.wa = n.wa ∧ R2 = R ∧ s2 = s) → RelS n2 pn s2 σ R2 → Enc n2 d1 v1 r1 → Enc n2 d2 v2 r2 → Sub r1 (T + (R2 + Mr)) → Sub r2 (T + (R2 + Mr)) →
      Ok n2.B (T + (R2 + Mr)) H2 → Post g W (pa && pb) pn n s σ R Mr fin (F d1 d2 s2) → K v1 v2 H2) :
    tE g W .E pa ma σ H fun x H1 => tE g W .E pb mb σ H1 fun y H2 => K x y H2 := by
  refine ⟨n, pn, s, R, Mr, pr, ?_⟩
  cases hm : ma s with
  | bad => rw [hm] at h; exact h
  | er e s' => rw [hm] at h; exact h
  | ok d1 s1 =>
    rw [hm, Rz.bind_ok] at h
    intro n1 R1 H1 l1 e1 rl1 v1 o1
    obtain ⟨t1, r1, x1, u1, o1⟩ := o1
    refine ⟨n1, pn, s1, R1, t1 + Mr, ⟨pg l1 pr.1, rl1, o1.cast (by ac_rfl)⟩, ?_⟩
    cases hm2 : mb s1 with
    | bad => rw [hm2] at h; exact h
    | er e s' =>
      rw [hm2] at h
      intro n2 R2 H2 l2 r2 o2
      exact h n2 R2 H2 (l1.trans l2) r2 ((o2.cast (show _ = t1 + (R2 + Mr) by ac_rfl)).drop)
    | ok d2 s2 =>
      rw [hm2, Rz.bind_ok] at h
      intro n2 R2 H2 l2 e2 rl2 v2 o2
      obtain ⟨t2, r2, x2, u2, o2⟩ := o2
      cases hc : (pb || cp d1) with
      | false => rw [hc] at h; exact False.elim h
      | true =>
        rw [hc, if_pos rfl] at h
        refine k n2 s2 R2 (t1 + t2) H2 d1 v1 r1 d2 v2 r2 (l1.trans l2) (pg l2 (pg l1 pr.1)).1 (fun z => ?_) rl2 (x1.mono l2) x2 ?_ ?_ (o2.cast (by ac_rfl)) h
        · rw [Bool.and_eq_true] at z
          obtain ⟨a1, a2, a3⟩ := e1 z.1
          obtain ⟨b1, b2, b3⟩ := e2 z.2
          exact ⟨b1.trans a1, b2.trans a2, b3.trans a3⟩
        · rw [Bool.or_eq_true] at hc
          rcases hc with z | z
          · rw [(e2 z).2.1]
            obtain ⟨u, e⟩ := u1
            exact ⟨u + (t2 + Mr), by rw [show t1 + t2 + (R1 + Mr) = (t1 + R1) + (t2 + Mr) by ac_rfl, e]; ac_rfl⟩
          · rw [x1.cp z]
            exact Sub.zero _
        · obtain ⟨u, e⟩ := u2
          exact ⟨u + (t1 + Mr), by rw [show t1 + t2 + (R2 + Mr) = (t2 + R2) + (t1 + Mr) by ac_rfl, e]; ac_rfl⟩
/-- a value that came about: T is what is owned so far -/
def Nw (n : En) (T : Rs) (d : D) (Q : VK) : Prop := ∀ n' v rn H', n.le n' → n'.wa = n.wa → Enc n' d v rn → Ok n'.B (rn + T) H' → Q v H'
theorem Nw.atom {n : En} {T : Rs} {d : D} {Q : VK} {v : V} {H : Hp} (q : Nw n T d Q) (h : Enc n d v 0) (o : Ok n.B T H) : Q v H := q n v 0 H (En.le.refl n) rfl h (by rw [Rs.zero_add]; exact o)
theorem Nw.lst {n : En} {T : Rs} {ds : List D} {Q : VK} {vs : List V} {H : Hp} (q : Nw n T (.lst .o ds) Q) (h : EncL n ds vs 0) (o : Ok n.B T H) : ∀ p, H p = none → Q (.ref p) (upd H p (.lst vs)) := fun p hp =>
  q n _ (Rs.one p (.lst vs)) _ (En.le.refl n) rfl ⟨p, vs, 0, rfl, (Rs.add_zero _).symm, h⟩ (o.add hp)
theorem Nw.tup {n : En} {T : Rs} {ds : List D} {Q : VK} {vs : List V} {H : Hp} (q : Nw n T (.tup ds) Q) (h : EncL n ds vs 0) (o : Ok n.B T H) : ∀ p, H p = none → Q (.ref p) (upd H p (.tup vs)) := fun p hp => by
  have o1 := o.add (p := p) (o := .tup vs) hp
  have l : n.le (n.put p (.tup vs)) := ⟨rfl, List.prefix_refl _, o1.frzSame⟩
  exact q (n.put p (.tup vs)) _ 0 _ l rfl ⟨rfl, p, vs, rfl, .inl (.inl upd_same), h.mono l⟩ (by rw [Rs.zero_add]; exact o1.freeze)
/-- an operator by values -/
def OpS (g : Gd) (r : R2) (f : D → D → Option D) : Prop := ∀ (n : En) (d1 : D) (v1 : V) (r1 : Rs) (d2 : D) (v2 : V) (r2 : Rs) (d : D) (T : Rs) (H : Hp) (Q : VK), n.g = g → Enc n d1 v1 r1 → Enc n d2 v2 r2 → Sub r1 T → Sub r2 T → Ok n.B T H →
  f d1 d2 = some d → Nw n T d Q → r v1 v2 H Q
def mBin (f : D → D → Option D) (pb : Bool) (ma mb : M D) : M D := fun s => (ma s).bind fun d1 s1 => (mb s1).bind fun d2 s2 => if (pb || cp d1) = true then mOpt (f d1 d2) s2 else .bad
theorem op_core {r : R2} {f : D → D → Option D} (hf : OpS g.toGd r f) (σ : L2.St) (H : Hp) (Q : VK) (h : tE g W .F (pa && pb) (mBin f pb ma mb) σ H Q) : tOp r (tE g W .E pa ma) (tE g W .E pb mb) σ H Q := by
  obtain ⟨n, pn, s, R, Mr, pr, q⟩ := h
  refine two (K := fun x y H => r x y H Q) pr q fun n2 s2 R2 T H2 d1 v1 r1 d2 v2 r2 l2 g2 e2 rl2 x1 x2 u1 u2 o2 q => ?_
  cases hd : f d1 d2 with
  | none => rw [hd] at q; exact False.elim q
  | some d =>
    rw [hd] at q
    exact hf n2 d1 v1 r1 d2 v2 r2 d _ H2 Q g2 x1 x2 u1 u2 o2 hd fun n3 v rn H' l3 w3 x o => q n3 R2 H' (l2.trans l3) (fun z => ⟨w3.trans (e2 z).1, (e2 z).2⟩) (rl2.mono l3 w3) v ⟨rn, x, (o.cast (show _ = T + (rn + (R2 + Mr)) by ac_rfl)).drop⟩
theorem sf_op {op : Operator} {r : R2} {f : D → D → Option D} (ho : OpR X (binaryOp op) r) (hf : OpS g.toGd r f) (ha : SE X g W .E pa a ma) (hb : SE X g W .E pb b mb) : SE X g W .F (pa && pb) (.BinOp a op b pos) (mBin f pb ma mb) :=
  PE.imp (pe_op ho ha hb) fun σ H Q h => op_core hf σ H Q h
theorem sf_cmp {op : CmpOp} {r : R2} {f : D → D → Option D} (ho : OpR X (compareOp op) r) (hf : OpS g.toGd r f) (ha : SE X g W .E pa a ma) (hb : SE X g W .E pb b mb) (hm : behindInMarks op b = false) : SE X g W .F (pa && pb) (.Compare a [op] [b] pos) (mBin f pb ma mb) :=
  PE.imp (pe_cmpR ho ha hb hm) fun σ H Q h => op_core hf σ H Q h
theorem sf_ix {r : R2} {f : D → D → Option D} (ho : IxR X r) (hf : OpS g.toGd r f) (ha : SE X g W .E pa a ma) (hb : SE X g W .E pb b mb) (hs : PlainIx b) : SE X g W .F (pa && pb) (.Subscript a b pos) (mBin f pb ma mb) :=
  PE.imp (pe_ix ho ha hb hs) fun σ H Q h => op_core hf σ H Q h
end
end Mi

namespace Mi
open PySem PySem.Spec PyProof.Rows Hk
open L2 hiding Takes XE CX takes_of passes_call MkP PMk ps_raise mk_of ps_try_as passAt pmk_own
open L2N (Takes XE CX takes_of passes_call MkP PMk ps_raise mk_of ps_try_as passAt pmk_own)
/-! ## operators by values -/
section
variable {g : Gd}
def dI (f : Int → Int → Int) : D → D → Option D
  | .int i, .int j => some (.int (f i j))
  | _, _ => none
def dIB (f : Int → Int → Bool) : D → D → Option D
  | .int i, .int j => some (.bl (f i j))
  | _, _ => none
theorem opS_I0 {f : Int → Int → Int} : OpS g (rI0 fun i j => .int (f i j)) (dI f) := by
  intro n d1 v1 r1 d2 v2 r2 d T H Q hg x1 x2 u1 u2 o e q
  cases d1 <;> first | cases e | skip
  cases d2 <;> cases e
  obtain ⟨rfl, _⟩ := x1
  obtain ⟨rfl, _⟩ := x2
  exact ⟨_, _, rfl, rfl, q.atom ⟨rfl, rfl⟩ o⟩
theorem opS_B0 {f : Int → Int → Bool} : OpS g (rI0 fun i j => .bl (f i j)) (dIB f) := by
  intro n d1 v1 r1 d2 v2 r2 d T H Q hg x1 x2 u1 u2 o e q
  cases d1 <;> first | cases e | skip
  cases d2 <;> cases e
  obtain ⟨rfl, _⟩ := x1
  obtain ⟨rfl, _⟩ := x2
  exact ⟨_, _, rfl, rfl, q.atom ⟨rfl, rfl⟩ o⟩
def dIc (c : Int → Int → Bool) (f : Int → Int → Int) : D → D → Option D
  | .int i, .int j => if c i j = true then some (.int (f i j)) else none
  | _, _ => none
theorem opS_I {C : Int → Int → Prop} {c : Int → Int → Bool} {f : Int → Int → Int} (hc : ∀ i j, c i j = true → C i j) : OpS g (rI C fun i j => .int (f i j)) (dIc c f) := by
  intro n d1 v1 r1 d2 v2 r2 d T H Q hg x1 x2 u1 u2 o e q
  cases d1 <;> first | cases e | skip
  cases d2 <;> first | cases e | skip
  rename_i i j
  obtain ⟨rfl, _⟩ := x1
  obtain ⟨rfl, _⟩ := x2
  have e : (if c i j = true then some (D.int (f i j)) else none) = some d := e
  cases h : c i j with
  | false => rw [h] at e; cases e
  | true =>
    rw [h] at e
    cases e
    exact ⟨_, _, rfl, rfl, hc _ _ h, q.atom ⟨rfl, rfl⟩ o⟩
/-! the int operators -/
def dAdd := dI (· + ·)
def dSub := dI (· - ·)
def cMul (i j : Int) : Bool := decide ((-(2 ^ 64) < i ∧ i < 2 ^ 64) ∨ (-(2 ^ 64) < j ∧ j < 2 ^ 64))
def dMul := dIc cMul (· * ·)
def cMulW (i j : Int) : Bool := decide (i.natAbs.log2 + j.natAbs.log2 < 1000000)
def dMulW := dIc cMulW (· * ·)
def cDiv (i j : Int) : Bool := decide (0 < j) && decide (j < 1073741824)
def dDiv := dIc cDiv (· / ·)
def dMod := dIc (fun _ j => decide (0 < j)) (· % ·)
def cPow (i j : Int) : Bool := decide (0 ≤ j) && decide (j ≤ 1000000) && decide (i.natAbs < 2 ^ 64)
def dPow := dIc cPow fun i j => i ^ j.toNat
def dShl := dIc cPow fun i j => i * 2 ^ j.toNat
def dShr := dIc (fun _ j => decide (0 ≤ j)) fun i j => i / 2 ^ j.toNat
def dAnd := dI Builtin.bitAnd
def dOr := dI Builtin.bitOr
def dXor := dI Builtin.bitXor
def dLt := dIB fun i j => decide (i < j)
def dLe := dIB fun i j => decide (i ≤ j)
def dGt := dIB fun i j => decide (j < i)
def dGe := dIB fun i j => decide (j ≤ i)
theorem s_add : OpS g (rI0 fun i j => .int (i + j)) dAdd := opS_I0
theorem s_sub : OpS g (rI0 fun i j => .int (i - j)) dSub := opS_I0
theorem s_mul : OpS g (rI CMul fun i j => .int (i * j)) dMul := opS_I fun i j h => of_decide_eq_true (p := (-(2 ^ 64) < i ∧ i < 2 ^ 64) ∨ (-(2 ^ 64) < j ∧ j < 2 ^ 64)) h
theorem s_mulW : OpS g (rI CMulW fun i j => .int (i * j)) dMulW := opS_I fun i j h => of_decide_eq_true (p := i.natAbs.log2 + j.natAbs.log2 < 1000000) h
theorem s_div : OpS g (rI CDiv fun i j => .int (i / j)) dDiv := opS_I fun i j h => by
  have h' : (decide (0 < j) && decide (j < 1073741824)) = true := h
  rw [Bool.and_eq_true] at h'
  exact ⟨of_decide_eq_true h'.1, of_decide_eq_true h'.2⟩
theorem s_mod : OpS g (rI (fun _ j => 0 < j) fun i j => .int (i % j)) dMod := opS_I fun i j h => of_decide_eq_true h
theorem cPow_ok {i j : Int} (h : cPow i j = true) : CPow i j := by
  have h' : (decide (0 ≤ j) && decide (j ≤ 1000000) && decide (i.natAbs < 2 ^ 64)) = true := h
  rw [Bool.and_eq_true, Bool.and_eq_true] at h'
  exact ⟨of_decide_eq_true h'.1.1, of_decide_eq_true h'.1.2, of_decide_eq_true h'.2⟩
theorem s_pow : OpS g (rI CPow fun i j => .int (i ^ j.toNat)) dPow := opS_I fun i j h => cPow_ok h
theorem s_shl : OpS g (rI CPow fun i j => .int (i * 2 ^ j.toNat)) dShl := opS_I fun i j h => cPow_ok h
theorem s_shr : OpS g (rI (fun _ j => 0 ≤ j) fun i j => .int (i / 2 ^ j.toNat)) dShr := opS_I fun i j h => of_decide_eq_true h
theorem s_and : OpS g (rI0 fun i j => .int (Builtin.bitAnd i j)) dAnd := opS_I0
theorem s_or : OpS g (rI0 fun i j => .int (Builtin.bitOr i j)) dOr := opS_I0
theorem s_xor : OpS g (rI0 fun i j => .int (Builtin.bitXor i j)) dXor := opS_I0
theorem s_lt : OpS g (rI0 fun i j => .bl (decide (i < j))) dLt := opS_B0
theorem s_le : OpS g (rI0 fun i j => .bl (decide (i ≤ j))) dLe := opS_B0
theorem s_gt : OpS g (rI0 fun i j => .bl (decide (j < i))) dGt := opS_B0
theorem s_ge : OpS g (rI0 fun i j => .bl (decide (j ≤ i))) dGe := opS_B0
/-! ### == by data -/
def dEqv (neg : Bool) (a b : D) : Option D := match dat a, dat b with
  | some x, some y => if (SeqAt.shaped x && SeqAt.shaped y) = true then some (.bl (if neg then !PyData.eqv x y else PyData.eqv x y)) else none
  | _, _ => none
theorem dEqv_of {neg : Bool} {a b d : D} (h : dEqv neg a b = some d) : ∃ x y, dat a = some x ∧ dat b = some y ∧ SeqAt.shaped x = true ∧ SeqAt.shaped y = true ∧ d = .bl (if neg then !PyData.eqv x y else PyData.eqv x y) := by
  unfold dEqv at h
  cases ea : dat a with
  | none => rw [ea] at h; cases h
  | some x =>
    cases eb : dat b with
    | none => rw [ea, eb] at h; cases h
    | some y =>
      rw [ea, eb] at h
      have h : (if (SeqAt.shaped x && SeqAt.shaped y) = true then some (D.bl (if neg then !PyData.eqv x y else PyData.eqv x y)) else none) = some d := h
      cases c : (SeqAt.shaped x && SeqAt.shaped y) with
      | false => rw [c] at h; cases h
      | true =>
        rw [c, if_pos rfl] at h
        rw [Bool.and_eq_true] at c
        exact ⟨x, y, rfl, rfl, c.1, c.2, (Option.some.inj h).symm⟩
def dEq := dEqv false
def dNe := dEqv true
theorem s_eq {g : Gd} : OpS g (rEqD g.K) dEq := by
  intro n d1 v1 r1 d2 v2 r2 d T H Q hg x1 x2 u1 u2 o e q
  subst hg
  obtain ⟨x, y, e1, e2, s1, s2, rfl⟩ := dEqv_of e
  exact ⟨x, y, x1.dp o u1 e1, x2.dp o u2 e2, s1, s2, q.atom ⟨rfl, rfl⟩ o⟩
theorem s_ne {g : Gd} : OpS g (rNeD g.K) dNe := by
  intro n d1 v1 r1 d2 v2 r2 d T H Q hg x1 x2 u1 u2 o e q
  subst hg
  obtain ⟨x, y, e1, e2, s1, s2, rfl⟩ := dEqv_of e
  exact ⟨x, y, x1.dp o u1 e1, x2.dp o u2 e2, s1, s2, q.atom ⟨rfl, rfl⟩ o⟩
/-! ### in -/
def dInL (neg : Bool) (a b : D) : Option D := match dat a, b with
  | some x, .lst _ ds => match datL ds with
    | some xs => if (SeqAt.shaped x && SeqAt.shaped (.list xs)) = true then some (.bl (if neg then !(xs.any fun z => PyData.eqv z x) else xs.any fun z => PyData.eqv z x)) else none
    | none => none
  | _, _ => none
theorem dInL_of {neg : Bool} {a b d : D} (h : dInL neg a b = some d) : ∃ x m ds xs, dat a = some x ∧ b = .lst m ds ∧ datL ds = some xs ∧ SeqAt.shaped x = true ∧ SeqAt.shaped (.list xs) = true ∧
    d = .bl (if neg then !(xs.any fun z => PyData.eqv z x) else xs.any fun z => PyData.eqv z x) := by
  unfold dInL at h
  cases ea : dat a with
  | none => rw [ea] at h; cases h
  | some x =>
    rw [ea] at h
    cases b <;> first | cases h | skip
    rename_i m ds
    have h : (match datL ds with
      | some xs => if (SeqAt.shaped x && SeqAt.shaped (.list xs)) = true then some (D.bl (if neg then !(xs.any fun z => PyData.eqv z x) else xs.any fun z => PyData.eqv z x)) else none
      | none => none) = some d := h
    cases ed : datL ds with
    | none => rw [ed] at h; cases h
    | some xs =>
      rw [ed] at h
      have h : (if (SeqAt.shaped x && SeqAt.shaped (.list xs)) = true then some (D.bl (if neg then !(xs.any fun z => PyData.eqv z x) else xs.any fun z => PyData.eqv z x)) else none) = some d := h
      cases c : (SeqAt.shaped x && SeqAt.shaped (.list xs)) with
      | false => rw [c] at h; cases h
      | true =>
        rw [c, if_pos rfl] at h
        rw [Bool.and_eq_true] at c
        exact ⟨x, m, ds, xs, rfl, rfl, ed, c.1, c.2, (Option.some.inj h).symm⟩
def dIn := dInL false
def dNotIn := dInL true
theorem s_in {g : Gd} : OpS g (rInD g.K) dIn := by
  intro n d1 v1 r1 d2 v2 r2 d T H Q hg x1 x2 u1 u2 o e q
  subst hg
  obtain ⟨x, m, ds, xs, e1, rfl, e2, s1, s2, rfl⟩ := dInL_of e
  exact ⟨x, xs, x1.dp o u1 e1, x2.dp o u2 (show (datL ds).map PyData.list = some (.list xs) by rw [e2]; rfl), s1, s2, q.atom ⟨rfl, rfl⟩ o⟩
theorem s_notIn {g : Gd} : OpS g (rNotInD g.K) dNotIn := by
  intro n d1 v1 r1 d2 v2 r2 d T H Q hg x1 x2 u1 u2 o e q
  subst hg
  obtain ⟨x, m, ds, xs, e1, rfl, e2, s1, s2, rfl⟩ := dInL_of e
  exact ⟨x, xs, x1.dp o u1 e1, x2.dp o u2 (show (datL ds).map PyData.list = some (.list xs) by rw [e2]; rfl), s1, s2, q.atom ⟨rfl, rfl⟩ o⟩
/-- a tuple or list of scalars -/
def toV : D → Option V
  | .non => some .non
  | .bl b => some (.bl b)
  | .int i => some (.int i)
  | .str s => some (.str s)
  | _ => none
def toVs : List D → Option (List V)
  | [] => some []
  | d :: ds => match toV d, toVs ds with
    | some v, some vs => some (v :: vs)
    | _, _ => none
theorem toV_flat {d : D} {v : V} (h : toV d = some v) : flatV v = true := by
  cases d <;> cases h <;> rfl
theorem toV_enc {n : En} {d : D} {v w : V} {r : Rs} (h : toV d = some v) (e : Enc n d w r) : w = v := by
  cases d <;> cases h <;> exact e.1
theorem toVs_flat : ∀ {ds : List D} {vs : List V}, toVs ds = some vs → vs.all flatV = true
  | [], _, h => by cases h; rfl
  | d :: ds, _, h => by
    unfold toVs at h
    cases e1 : toV d with
    | none => rw [e1] at h; cases h
    | some v =>
      cases e2 : toVs ds with
      | none => rw [e1, e2] at h; cases h
      | some vs =>
        rw [e1, e2] at h
        cases h
        rw [List.all_cons, toV_flat e1, toVs_flat e2]
        rfl
theorem toVs_enc {n : En} : ∀ {ds : List D} {vs ws : List V} {r : Rs}, toVs ds = some vs → EncL n ds ws r → ws = vs
  | [], _, _, _, h, e => by cases h; exact e.1
  | d :: ds, _, _, _, h, e => by
    obtain ⟨v', vs', r1, r2, rfl, rfl, h1, h2⟩ := e
    unfold toVs at h
    cases e1 : toV d with
    | none => rw [e1] at h; cases h
    | some v =>
      cases e2 : toVs ds with
      | none => rw [e1, e2] at h; cases h
      | some vs =>
        rw [e1, e2] at h
        cases h
        rw [toV_enc e1 h1, toVs_enc e2 h2]
def dInS (neg : Bool) (a b : D) : Option D := match toV a, b with
  | some x, .tup ds => (toVs ds).map fun xs => .bl (if neg then !inV x xs else inV x xs)
  | some x, .lst _ ds => (toVs ds).map fun xs => .bl (if neg then !inV x xs else inV x xs)
  | _, _ => none
theorem s_inS {g : Gd} {neg : Bool} : OpS g (rIn g.K neg) (dInS neg) := by
  intro n d1 v1 r1 d2 v2 r2 d T H Q hg x1 x2 u1 u2 o e q
  subst hg
  unfold dInS at e
  cases e1 : toV d1 with
  | none => rw [e1] at e; cases e
  | some x =>
    rw [e1] at e
    have ex := toV_enc e1 x1
    subst ex
    cases d2 <;> first | cases e | skip
    · rename_i ds
      obtain ⟨a, vs, rfl, hq, hl⟩ := x2.tup o
      have e : (toVs ds).map (fun xs => D.bl (if neg then !inV v1 xs else inV v1 xs)) = some d := e
      cases e2 : toVs ds with
      | none => rw [e2] at e; cases e
      | some xs =>
        rw [e2] at e
        cases e
        have ew := toVs_enc e2 hl
        subst ew
        exact ⟨a, vs, rfl, .inr hq, toV_flat e1, toVs_flat e2, q.atom ⟨rfl, rfl⟩ o⟩
    · rename_i m ds
      obtain ⟨a, vs, r', rfl, hq, hl, _, _⟩ := x2.seq o u2
      have e : (toVs ds).map (fun xs => D.bl (if neg then !inV v1 xs else inV v1 xs)) = some d := e
      cases e2 : toVs ds with
      | none => rw [e2] at e; cases e
      | some xs =>
        rw [e2] at e
        cases e
        have ew := toVs_enc e2 hl
        subst ew
        exact ⟨a, vs, rfl, .inl hq, toV_flat e1, toVs_flat e2, q.atom ⟨rfl, rfl⟩ o⟩
/-- a sign in a text -/
def dInT (neg : Bool) : D → D → Option D
  | .str x, .str y => if x.cps.size = 1 then some (.bl (if neg then !decide (x.cps.getD 0 0 ∈ y.cps.toList) else decide (x.cps.getD 0 0 ∈ y.cps.toList))) else none
  | _, _ => none
theorem sign_of {x : Str} (h : x.cps.size = 1) : x = ⟨#[x.cps.getD 0 0]⟩ := by
  obtain ⟨l⟩ := x
  obtain ⟨l⟩ := l
  cases l with
  | nil => exact absurd h (by decide)
  | cons a r =>
    cases r with
    | nil => rfl
    | cons b r => exact absurd h (by simp)
theorem s_inT {g : Gd} : OpS g (fun x y H Q => ∃ (c : Nat) (z : Str), x = .str ⟨#[c]⟩ ∧ y = .str z ∧ Q (.bl (decide (c ∈ z.cps.toList))) H) (dInT false) := by
  intro n d1 v1 r1 d2 v2 r2 d T H Q hg x1 x2 u1 u2 o e q
  cases d1 <;> first | cases e | skip
  cases d2 <;> first | cases e | skip
  rename_i x y
  obtain ⟨rfl, _⟩ := x1
  obtain ⟨rfl, _⟩ := x2
  have e : (if x.cps.size = 1 then some (D.bl (decide (x.cps.getD 0 0 ∈ y.cps.toList))) else none) = some d := e
  by_cases h : x.cps.size = 1
  · rw [if_pos h] at e
    cases e
    exact ⟨_, y, by rw [← sign_of h], rfl, q.atom ⟨rfl, rfl⟩ o⟩
  · rw [if_neg h] at e
    cases e
theorem s_notInT {g : Gd} : OpS g (fun x y H Q => ∃ (c : Nat) (z : Str), x = .str ⟨#[c]⟩ ∧ y = .str z ∧ Q (.bl (!decide (c ∈ z.cps.toList))) H) (dInT true) := by
  intro n d1 v1 r1 d2 v2 r2 d T H Q hg x1 x2 u1 u2 o e q
  cases d1 <;> first | cases e | skip
  cases d2 <;> first | cases e | skip
  rename_i x y
  obtain ⟨rfl, _⟩ := x1
  obtain ⟨rfl, _⟩ := x2
  have e : (if x.cps.size = 1 then some (D.bl (!decide (x.cps.getD 0 0 ∈ y.cps.toList))) else none) = some d := e
  by_cases h : x.cps.size = 1
  · rw [if_pos h] at e
    cases e
    exact ⟨_, y, by rw [← sign_of h], rfl, q.atom ⟨rfl, rfl⟩ o⟩
  · rw [if_neg h] at e
    cases e
/-! ### is -/
def isNone : D → Bool
  | .non => true
  | _ => false
theorem isNone_enc {n : En} {d : D} {v : V} {r : Rs} (h : Enc n d v r) : decide (v = .non) = isNone d := by
  cases d with
  | non => rw [h.1]; rfl
  | bl b => rw [h.1]; rfl
  | int b => rw [h.1]; rfl
  | str b => rw [h.1]; rfl
  | ty b => rw [h.1]; rfl
  | tup ds => obtain ⟨_, a, vs, rfl, _⟩ := h; rfl
  | lst m ds =>
    cases m with
    | o => obtain ⟨a, vs, r', rfl, _⟩ := h; rfl
    | f => obtain ⟨_, a, vs, rfl, _⟩ := h; rfl
    | r => obtain ⟨_, a, vs, rfl, _⟩ := h; rfl
  | dic o ks ds =>
    cases o with
    | true => obtain ⟨a, vs, r', rfl, _⟩ := h; rfl
    | false => obtain ⟨_, a, vs, rfl, _⟩ := h; rfl
  | fin c ns ds => obtain ⟨_, a, dx, vs, rfl, _⟩ := h; rfl
  | obj i => obtain ⟨_, a, rfl, _⟩ := h; rfl
def dIsN (neg : Bool) : D → D → Option D
  | a, .non => some (.bl (if neg then !isNone a else isNone a))
  | _, _ => none
theorem s_isN {g : Gd} : OpS g rIs (dIsN false) := by
  intro n d1 v1 r1 d2 v2 r2 d T H Q hg x1 x2 u1 u2 o e q
  cases d2 <;> cases e
  obtain ⟨rfl, _⟩ := x2
  exact ⟨rfl, by rw [isNone_enc x1]; exact q.atom ⟨rfl, rfl⟩ o⟩
theorem s_isNotN {g : Gd} : OpS g rNot (dIsN true) := by
  intro n d1 v1 r1 d2 v2 r2 d T H Q hg x1 x2 u1 u2 o e q
  cases d2 <;> cases e
  obtain ⟨rfl, _⟩ := x2
  exact ⟨rfl, by rw [isNone_enc x1]; exact q.atom ⟨rfl, rfl⟩ o⟩
def dIsB (neg : Bool) : D → D → Option D
  | .bl a, .bl b => some (.bl (if neg then !decide (a = b) else decide (a = b)))
  | _, _ => none
theorem s_isB {g : Gd} : OpS g rIsB (dIsB false) := by
  intro n d1 v1 r1 d2 v2 r2 d T H Q hg x1 x2 u1 u2 o e q
  cases d1 <;> first | cases e | skip
  cases d2 <;> cases e
  obtain ⟨rfl, _⟩ := x1
  obtain ⟨rfl, _⟩ := x2
  exact ⟨_, _, rfl, rfl, q.atom ⟨rfl, rfl⟩ o⟩
theorem s_isNotB {g : Gd} : OpS g rNotB (dIsB true) := by
  intro n d1 v1 r1 d2 v2 r2 d T H Q hg x1 x2 u1 u2 o e q
  cases d1 <;> first | cases e | skip
  cases d2 <;> cases e
  obtain ⟨rfl, _⟩ := x1
  obtain ⟨rfl, _⟩ := x2
  exact ⟨_, _, rfl, rfl, q.atom ⟨rfl, rfl⟩ o⟩
/-! ### + of lists, tuples, texts; a list times an int -/
/-- a list that stands in the tracked heap -/
def wr : D → Option (List D)
  | .lst .o xs => some xs
  | .lst .f xs => some xs
  | _ => none
theorem wr_of {d : D} {xs : List D} (h : wr d = some xs) : ∃ m, d = .lst m xs ∧ m ≠ .r := by
  cases d <;> first | (cases h; done) | skip
  rename_i m ys
  cases m <;> cases h
  · exact ⟨.o, rfl, by decide⟩
  · exact ⟨.f, rfl, by decide⟩
def dCat (a b : D) : Option D := match wr a, wr b with
  | some xs, some ys => if (cpL xs && cpL ys && decide (xs.length + ys.length ≤ 16777216)) = true then some (.lst .o (xs ++ ys)) else none
  | _, _ => none
theorem dCat_of {a b d : D} (h : dCat a b = some d) : ∃ m k xs ys, a = .lst m xs ∧ b = .lst k ys ∧ m ≠ .r ∧ k ≠ .r ∧ cpL xs = true ∧ cpL ys = true ∧ xs.length + ys.length ≤ 16777216 ∧ d = .lst .o (xs ++ ys) := by
  unfold dCat at h
  cases ea : wr a with
  | none => rw [ea] at h; cases h
  | some xs =>
    cases eb : wr b with
    | none => rw [ea, eb] at h; cases h
    | some ys =>
      rw [ea, eb] at h
      have h : (if (cpL xs && cpL ys && decide (xs.length + ys.length ≤ 16777216)) = true then some (D.lst .o (xs ++ ys)) else none) = some d := h
      obtain ⟨m, rfl, hm⟩ := wr_of ea
      obtain ⟨k, rfl, hk⟩ := wr_of eb
      cases c : (cpL xs && cpL ys && decide (xs.length + ys.length ≤ 16777216)) with
      | false => rw [c] at h; cases h
      | true =>
        rw [c, if_pos rfl] at h
        rw [Bool.and_eq_true, Bool.and_eq_true] at c
        exact ⟨m, k, xs, ys, rfl, rfl, hm, hk, c.1.1, c.1.2, of_decide_eq_true c.2, (Option.some.inj h).symm⟩
theorem s_cat {g : Gd} : OpS g rCat dCat := by
  intro n d1 v1 r1 d2 v2 r2 d T H Q hg x1 x2 u1 u2 o e q
  obtain ⟨m, k, xs, ys, rfl, rfl, hm, hk, c1, c2, hz, rfl⟩ := dCat_of e
  obtain ⟨a, vs, r', rfl, _, h1, _, e1⟩ := x1.seq o u1
  obtain ⟨b, ws, r'', rfl, _, h2, _, e2⟩ := x2.seq o u2
  have z1 := h1.cp c1
  have z2 := h2.cp c2
  subst z1 z2
  refine ⟨a, b, vs, ws, rfl, rfl, e1 hm, e2 hk, by rw [h1.len, h2.len, sizeLine_eq]; exact hz, q.lst ?_ o⟩
  have := h1.app h2
  rw [Rs.add_zero] at this
  exact this
def dCatT : D → D → Option D
  | .tup xs, .tup ys => if xs.length + ys.length ≤ 16777216 then some (.tup (xs ++ ys)) else none
  | _, _ => none
theorem s_catT {g : Gd} : OpS g (rCatA g.K) dCatT := by
  intro n d1 v1 r1 d2 v2 r2 d T H Q hg x1 x2 u1 u2 o e q
  subst hg
  cases d1 <;> first | cases e | skip
  cases d2 <;> first | cases e | skip
  rename_i xs ys
  have e : (if xs.length + ys.length ≤ 16777216 then some (D.tup (xs ++ ys)) else none) = some d := e
  by_cases hz : xs.length + ys.length ≤ 16777216
  · rw [if_pos hz] at e
    cases e
    have y1 := x1
    have y2 := x2
    obtain ⟨a, vs, rfl, q1, h1⟩ := x1.tup o
    obtain ⟨b, ws, rfl, q2, h2⟩ := x2.tup o
    have h3 := h1.app h2
    rw [Rs.add_zero] at h3
    refine ⟨a, b, vs, ws, rfl, rfl, q1, q2, by rw [h1.len, h2.len, sizeLine_eq]; exact hz, fun z => ?_, fun _ z => ?_, fun _ _ => q.tup h3 o⟩
    · subst z
      cases xs with
      | nil => obtain rfl := y2.1; exact q.atom y2 o
      | cons x xs => obtain ⟨_, _, _, _, e, _⟩ := h1; cases e
    · subst z
      cases ys with
      | nil =>
        rw [List.append_nil] at q
        obtain rfl := y1.1
        exact q.atom y1 o
      | cons x xs => obtain ⟨_, _, _, _, e, _⟩ := h2; cases e
  · rw [if_neg hz] at e
    cases e
def dCatS : D → D → Option D
  | .str x, .str y => if x.length + y.length ≤ 16777216 then some (.str (x ++ y)) else none
  | _, _ => none
theorem s_catS {g : Gd} : OpS g (fun x y H Q => ∃ i j, x = .str i ∧ y = .str j ∧ i.length + j.length ≤ sizeLine ∧ Q (.str (i ++ j)) H) dCatS := by
  intro n d1 v1 r1 d2 v2 r2 d T H Q hg x1 x2 u1 u2 o e q
  cases d1 <;> first | cases e | skip
  cases d2 <;> first | cases e | skip
  rename_i x y
  obtain ⟨rfl, _⟩ := x1
  obtain ⟨rfl, _⟩ := x2
  have e : (if x.length + y.length ≤ 16777216 then some (D.str (x ++ y)) else none) = some d := e
  by_cases hz : x.length + y.length ≤ 16777216
  · rw [if_pos hz] at e
    cases e
    exact ⟨x, y, rfl, rfl, by rw [sizeLine_eq]; exact hz, q.atom ⟨rfl, rfl⟩ o⟩
  · rw [if_neg hz] at e
    cases e
def dRep (a b : D) : Option D := match wr a, b with
  | some xs, .int k => if (cpL xs && decide (-(2 ^ 63) ≤ k ∧ k < 2 ^ 63) && decide (xs.length * k.toNat ≤ 16777216)) = true then some (.lst .o (List.replicate k.toNat xs).flatten) else none
  | _, _ => none
theorem encL_rep {n : En} {ds : List D} {vs : List V} (h : EncL n ds vs 0) : ∀ k, EncL n (List.replicate k ds).flatten (List.replicate k vs).flatten 0
  | 0 => ⟨rfl, rfl⟩
  | k + 1 => by
    rw [List.replicate_succ, List.flatten_cons, List.replicate_succ, List.flatten_cons]
    have := h.app (encL_rep h k)
    rw [Rs.add_zero] at this
    exact this
theorem s_rep {g : Gd} : OpS g rRep dRep := by
  intro n d1 v1 r1 d2 v2 r2 d T H Q hg x1 x2 u1 u2 o e q
  unfold dRep at e
  cases ea : wr d1 with
  | none => rw [ea] at e; cases e
  | some xs =>
    rw [ea] at e
    cases d2 <;> first | (cases e; done) | skip
    rename_i k
    have e : (if (cpL xs && decide (-(2 ^ 63) ≤ k ∧ k < 2 ^ 63) && decide (xs.length * k.toNat ≤ 16777216)) = true then some (D.lst .o (List.replicate k.toNat xs).flatten) else none) = some d := e
    obtain ⟨m, rfl, hm⟩ := wr_of ea
    cases c : (cpL xs && decide (-(2 ^ 63) ≤ k ∧ k < 2 ^ 63) && decide (xs.length * k.toNat ≤ 16777216)) with
    | false => rw [c] at e; cases e
    | true =>
      rw [c, if_pos rfl] at e
      rw [Bool.and_eq_true, Bool.and_eq_true] at c
      have ed := Option.some.inj e
      subst ed
      obtain ⟨rfl, _⟩ := x2
      obtain ⟨a, vs, r', rfl, _, h1, _, e1⟩ := x1.seq o u1
      have z1 := h1.cp c.1.1
      subst z1
      have hk := of_decide_eq_true c.1.2
      exact ⟨a, k, vs, rfl, rfl, e1 hm, hk.1, hk.2, by rw [h1.len, sizeLine_eq]; exact of_decide_eq_true c.2, q.lst (encL_rep h1 _) o⟩
/-! ### places and slices -/
def dIx : D → D → Option D
  | .lst _ xs, .int i => (atI xs i).bind fun d => if cp d = true then some d else none
  | _, _ => none
def dIxT : D → D → Option D
  | .tup xs, .int i => atI xs i
  | _, _ => none
def dIxS : D → D → Option D
  | .str z, .int i => if z.length ≤ 16777216 then (atI z.cps.toList i).map fun c => .str ⟨#[c]⟩ else none
  | _, _ => none
theorem encL_at {n : En} {ds : List D} {vs : List V} {r : Rs} {i : Int} {d : D} (h : EncL n ds vs r) (e : atI ds i = some d) : ∃ v ri, atI vs i = some v ∧ Enc n d v ri ∧ Sub ri r := by
  unfold atI at e ⊢
  rw [h.len]
  cases ei : ixN ds.length i with
  | none => rw [ei] at e; cases e
  | some j =>
    rw [ei] at e
    obtain ⟨v, ri, e1, e2, e3⟩ := h.get (show ds[j]? = some d from e)
    exact ⟨v, ri, e1, e2, e3⟩
theorem s_ix {g : Gd} : OpS g (rIxL g.K) dIx := by
  intro n d1 v1 r1 d2 v2 r2 d T H Q hg x1 x2 u1 u2 o e q
  subst hg
  cases d1 <;> first | cases e | skip
  cases d2 <;> first | cases e | skip
  rename_i m xs i
  have e : ((atI xs i).bind fun d => if cp d = true then some d else none) = some d := e
  cases ea : atI xs i with
  | none => rw [ea] at e; cases e
  | some d' =>
    rw [ea] at e
    have e : (if cp d' = true then some d' else none) = some d := e
    cases c : cp d' with
    | false => rw [c] at e; cases e
    | true =>
      rw [c, if_pos rfl] at e
      cases e
      obtain ⟨rfl, _⟩ := x2
      obtain ⟨a, vs, r', rfl, hq, h1, _, _⟩ := x1.seq o u1
      obtain ⟨v, ri, e1, e2, _⟩ := encL_at h1 ea
      have z := e2.cp c
      subst z
      exact ⟨a, vs, i, v, rfl, rfl, hq, e1, q.atom e2 o⟩
theorem s_ixT {g : Gd} : OpS g (rIxT g.K) dIxT := by
  intro n d1 v1 r1 d2 v2 r2 d T H Q hg x1 x2 u1 u2 o e q
  subst hg
  cases d1 <;> first | cases e | skip
  cases d2 <;> first | cases e | skip
  rename_i xs i
  obtain ⟨rfl, _⟩ := x2
  obtain ⟨a, vs, rfl, hq, h1⟩ := x1.tup o
  obtain ⟨v, ri, e1, e2, e3⟩ := encL_at h1 (show atI xs i = some d from e)
  obtain ⟨u, eu⟩ := e3
  obtain ⟨rfl, _⟩ := Rs.zero_of_add eu
  exact ⟨a, vs, i, v, rfl, rfl, hq, e1, q.atom e2 o⟩
theorem s_ixS {g : Gd} : OpS g rIxS dIxS := by
  intro n d1 v1 r1 d2 v2 r2 d T H Q hg x1 x2 u1 u2 o e q
  cases d1 <;> first | cases e | skip
  cases d2 <;> first | cases e | skip
  rename_i z i
  obtain ⟨rfl, _⟩ := x1
  obtain ⟨rfl, _⟩ := x2
  have e : (if z.length ≤ 16777216 then (atI z.cps.toList i).map (fun c => D.str ⟨#[c]⟩) else none) = some d := e
  by_cases hz : z.length ≤ 16777216
  · rw [if_pos hz] at e
    cases ea : atI z.cps.toList i with
    | none => rw [ea] at e; cases e
    | some c =>
      rw [ea] at e
      cases e
      exact ⟨z, i, c, rfl, rfl, by rw [sizeLine_eq]; exact hz, ea, q.atom ⟨rfl, rfl⟩ o⟩
  · rw [if_neg hz] at e
    cases e
end
end Mi

namespace Mi
open PySem PySem.Spec PyProof.Rows Hk
open L2 hiding Takes XE CX takes_of passes_call MkP PMk ps_raise mk_of ps_try_as passAt pmk_own
open L2N (Takes XE CX takes_of passes_call MkP PMk ps_raise mk_of ps_try_as passAt pmk_own)
section
variable {X : Cx} {g : Gj} {W : WX} {p pa pb : Bool} {a b e : Expr} {es : List Expr} {ma mb : M D} {pos : Pos}
theorem Kd.atom {k : Kd} {n : En} {d : D} {v : V} {R Mr : Rs} {H : Hp} (h : Enc n d v 0) (o : Ok n.B (R + Mr) H) : k.ok n d v R Mr H := by
  cases k with
  | E => exact ⟨0, 0, h, Sub.zero _, by rw [Rs.zero_add]; exact o⟩
  | F => exact ⟨0, h, by rw [Rs.zero_add]; exact o⟩
  | C => exact ⟨h, o⟩
theorem Kd.rd {k : Kd} {n : En} {d : D} {v : V} {R Mr : Rs} {H : Hp} (h : k.ok n d v R Mr H) : ∃ t r, Enc n d v r ∧ Sub r (t + (R + Mr)) ∧ Ok n.B (t + (R + Mr)) H := by
  cases k with
  | E =>
    obtain ⟨t, r, h1, h2, h3⟩ := h
    obtain ⟨u, e⟩ := h2
    exact ⟨t, r, h1, ⟨u + Mr, by rw [show t + (R + Mr) = (t + R) + Mr by ac_rfl, e]; ac_rfl⟩, h3⟩
  | F =>
    obtain ⟨r, h1, h2⟩ := h
    exact ⟨r, r, h1, ⟨_, rfl⟩, h2⟩
  | C => exact ⟨0, 0, h.1, Sub.zero _, by rw [Rs.zero_add]; exact h.2⟩

/-! ### one operand -/
theorem one {α : Type} {fin : α → En → Rs → Hp → Prop} {n : En} {pn : Ct} {s : MS} {σ : L2.St} {R Mr : Rs} {H : Hp} {F : D → MS → Rz α} {K : V → Hp → Prop} (pr : Pre g n pn s σ R Mr H)
    (h : Post g W pa pn n s σ R Mr fin ((ma s).bind F))
    (k : ∀ n1 s1 R1 T H1 d v r, n.le n1 → n1.g = g.toGd → (pa = true → n1.wa = n.wa ∧ R1 = R ∧ s1 = s) → RelS n1 pn s1 σ R1 → Enc n1 d v r → Sub r (T + (R1 + Mr)) →
      Ok n1.B (T + (R1 + Mr)) H1 → Post g W pa pn n s σ R Mr fin (F d s1) → K v H1) : tE g W .E pa ma σ H K := by
  refine ⟨n, pn, s, R, Mr, pr, ?_⟩
  cases hm : ma s with
  | bad => rw [hm] at h; exact h
  | er e s' => rw [hm] at h; exact h
  | ok d s1 =>
    rw [hm, Rz.bind_ok] at h
    intro n1 R1 H1 l1 e1 rl1 v o
    obtain ⟨t, r, x, u, o⟩ := o
    refine k n1 s1 R1 t H1 d v r l1 (pg l1 pr.1).1 e1 rl1 x ?_ o h
    obtain ⟨w, e⟩ := u
    exact ⟨w + Mr, by rw [show t + (R1 + Mr) = (t + R1) + Mr by ac_rfl, e]; ac_rfl⟩
def Op1 (g : Gd) (r : V → Hp → VK → Prop) (f : D → Option D) : Prop := ∀ (n : En) (d1 : D) (v1 : V) (r1 : Rs) (d : D) (T : Rs) (H : Hp) (Q : VK), n.g = g → Enc n d1 v1 r1 → Sub r1 T → Ok n.B T H → f d1 = some d → Nw n T d Q → r v1 H Q
def mUn (f : D → Option D) (ma : M D) : M D := fun s => (ma s).bind fun d s1 => mOpt (f d) s1
theorem un_core {r : V → Hp → VK → Prop} {f : D → Option D} (hf : Op1 g.toGd r f) (σ : L2.St) (H : Hp) (Q : VK) (h : tE g W .F pa (mUn f ma) σ H Q) : tE g W .E pa ma σ H fun x H1 => r x H1 Q := by
  obtain ⟨n, pn, s, R, Mr, pr, q⟩ := h
  refine one (K := fun x H => r x H Q) pr q fun n1 s1 R1 T H1 d v r1 l1 g1 e1 rl1 x u o q => ?_
  cases hd : f d with
  | none => rw [hd] at q; exact False.elim q
  | some d' =>
    rw [hd] at q
    exact hf n1 d v r1 d' _ H1 Q g1 x u o hd fun n3 v rn H' l3 w3 x o => q n3 R1 H' (l1.trans l3) (fun z => ⟨w3.trans (e1 z).1, (e1 z).2⟩) (rl1.mono l3 w3) v ⟨rn, x, (o.cast (show _ = T + (rn + (R1 + Mr)) by ac_rfl)).drop⟩
theorem sf_un {op : UnaryOp} {r : V → Hp → VK → Prop} {f : D → Option D} (ho : UnR X (unaryOp op) r) (hf : Op1 g.toGd r f) (ha : SE X g W .E pa a ma) : SE X g W .F pa (.UnaryOp op a pos) (mUn f ma) :=
  PE.imp (pe_un ho ha) fun σ H Q h => un_core hf σ H Q h
def dNeg : D → Option D
  | .int i => some (.int (-i))
  | _ => none
theorem s_neg {g : Gd} : Op1 g (rU fun i => .int (-i)) dNeg := by
  intro n d1 v1 r1 d T H Q hg x u o e q
  cases d1 <;> cases e
  obtain ⟨rfl, _⟩ := x
  exact ⟨_, rfl, q.atom ⟨rfl, rfl⟩ o⟩
def dNot : D → Option D
  | .bl b => some (.bl (!b))
  | _ => none
theorem sf_not (ha : SE X g W .E pa a ma) : SE X g W .F pa (.UnaryOp .Not a pos) (mUn dNot ma) :=
  PE.imp (pe_not ha) fun σ H Q h => un_core (r := fun x H1 Q => ∃ c, x = .bl c ∧ Q (.bl (!c)) H1) (fun n d1 v1 r1 d T H Q hg x u o e q => by
    cases d1 <;> cases e
    obtain ⟨rfl, _⟩ := x
    exact ⟨_, rfl, q.atom ⟨rfl, rfl⟩ o⟩) σ H Q h
/-! truth -/
def tru : D → Option Bool
  | .non => some false
  | .bl b => some b
  | .int i => some (i != 0)
  | .str x => if x.length ≤ 16777216 then some ((x.length : Int) != 0) else none
  | .tup ds => some (!ds.isEmpty)
  | .lst _ ds => some (!ds.isEmpty)
  | .dic _ ks ds => some (!ds.isEmpty)
  | _ => none
theorem encL_empty {n : En} {ds : List D} {vs : List V} {r : Rs} (h : EncL n ds vs r) : vs.isEmpty = ds.isEmpty := by
  have := h.len
  cases ds <;> cases vs <;> first | rfl | (simp at this)
theorem tru_v {n : En} {d : D} {v : V} {r T : Rs} {H : Hp} {c : Bool} (x : Enc n d v r) (u : Sub r T) (o : Ok n.B T H) (e : tru d = some c) : TruV n.g.K v H c := by
  cases d with
  | non => cases e; obtain ⟨rfl, _⟩ := x; rfl
  | bl b => cases e; obtain ⟨rfl, _⟩ := x; rfl
  | int i => cases e; obtain ⟨rfl, _⟩ := x; rfl
  | str z =>
    have e : (if z.length ≤ 16777216 then some ((z.length : Int) != 0) else none) = some c := e
    by_cases hz : z.length ≤ 16777216
    · rw [if_pos hz] at e
      cases e
      obtain ⟨rfl, _⟩ := x
      exact ⟨by rw [sizeLine_eq]; exact hz, rfl⟩
    · rw [if_neg hz] at e; cases e
  | tup ds =>
    cases e
    obtain ⟨a, vs, rfl, hq, hl⟩ := x.tup o
    exact .inr (.inl ⟨vs, hq, by rw [encL_empty hl]⟩)
  | lst m ds =>
    cases e
    obtain ⟨a, vs, r', rfl, hq, hl, _, _⟩ := x.seq o u
    exact .inl ⟨vs, hq, by rw [encL_empty hl]⟩
  | dic m ks ds =>
    cases e
    cases m with
    | true =>
      obtain ⟨a, vs, r', rfl, rfl, hl, kl⟩ := x
      have eh := o.at (Sub.trans ⟨r', rfl⟩ u)
      refine .inr (.inr ⟨_, eh, ?_⟩)
      have := hl.len
      cases ds <;> cases vs <;> cases ks <;> first | rfl | (simp at this; done) | (simp at kl; done)
    | false =>
      obtain ⟨rfl, a, vs, rfl, eb, hl, kl⟩ := x
      refine .inr (.inr ⟨_, o.same _ _ eb, ?_⟩)
      have := hl.len
      cases ds <;> cases vs <;> cases ks <;> first | rfl | (simp at this; done) | (simp at kl; done)
  | ty _ => cases e
  | fin _ _ _ => cases e
  | obj _ => cases e

/-! ### tests -/
def mTru (ma : M D) : M Bool := fun s => (ma s).bind fun d s1 => mOpt (tru d) s1
def dB : D → Option Bool
  | .bl b => some b
  | _ => none
def mB (ma : M D) : M Bool := fun s => (ma s).bind fun d s1 => mOpt (dB d) s1
theorem b_core {r : V → Hp → (Bool → Hp → Prop) → Prop} {f : D → Option Bool} (hf : ∀ (n : En) (d1 : D) (v1 : V) (r1 : Rs) (c : Bool) (T : Rs) (H : Hp) (Q : Bool → Hp → Prop), n.g = g.toGd → Enc n d1 v1 r1 → Sub r1 T → Ok n.B T H → f d1 = some c → Q c H → r v1 H Q)
    (σ : L2.St) (H : Hp) (Q : Bool → Hp → Prop) (h : tB g W pa (fun s => (ma s).bind fun d s1 => mOpt (f d) s1) σ H Q) : tE g W .E pa ma σ H fun x H1 => r x H1 Q := by
  obtain ⟨n, pn, s, R, Mr, pr, q⟩ := h
  refine one (K := fun x H => r x H Q) pr q fun n1 s1 R1 T H1 d v r1 l1 g1 e1 rl1 x u o q => ?_
  cases hd : f d with
  | none => rw [hd] at q; exact False.elim q
  | some c =>
    rw [hd] at q
    exact hf n1 d v r1 c _ H1 Q g1 x u o hd (q n1 R1 H1 l1 e1 rl1 o.drop)
theorem st_val (ha : SE X g W .E pa e ma) (he : ∀ whole, isTrue e X.env whole = (do let v ← whole; standAt e.pos; holding [v] (truthy v)) := by intro _; rfl) : ST X g W pa e (mB ma) :=
  PT.imp (pt_val ha he) fun σ H Q h => b_core (r := fun x H1 Q => ∃ c, x = .bl c ∧ Q c H1) (fun n d1 v1 r1 c T H Q hg x u o e q => by
    cases d1 <;> cases e
    obtain ⟨rfl, _⟩ := x
    exact ⟨_, rfl, q⟩) σ H Q h
theorem st_truth (hK : X.K = g.K) (ha : SE X g W .E pa e ma) (he : ∀ whole, isTrue e X.env whole = (do let v ← whole; standAt e.pos; holding [v] (truthy v)) := by intro _; rfl) : ST X g W pa e (mTru ma) :=
  PT.imp (pt_truth ha he) fun σ H Q h => b_core (r := fun x H' Q => ∃ k, TruV X.K x H' k ∧ Q k H') (fun n d1 v1 r1 c T H Q hg x u o e q => ⟨c, by rw [hK, ← hg]; exact tru_v x u o e, q⟩) σ H Q h
theorem sf_notT (hK : X.K = g.K) (ha : SE X g W .E pa a ma) : SE X g W .F pa (.UnaryOp .Not a pos) (mUn (fun d => (tru d).map fun c => .bl (!c)) ma) :=
  PE.imp (pe_notT ha) fun σ H Q h => un_core (r := fun x H1 Q => ∃ k, TruV X.K x H1 k ∧ Q (.bl (!k)) H1) (fun n d1 v1 r1 d T H Q hg x u o e q => by
    cases e1 : tru d1 with
    | none => rw [e1] at e; cases e
    | some c =>
      rw [e1] at e
      cases e
      exact ⟨c, by rw [hK, ← hg]; exact tru_v x u o e1, q.atom ⟨rfl, rfl⟩ o⟩) σ H Q h
theorem st_cmp {op : CmpOp} {r : R2} {f : D → D → Option D} (ho : OpR X (compareOp op) r) (hf : OpS g.toGd r f) (ha : SE X g W .E pa a ma) (hb : SE X g W .E pb b mb) (hm : behindInMarks op b = false) : ST X g W (pa && pb) (.Compare a [op] [b] pos) (mB (mBin f pb ma mb)) :=
  PT.imp (pt_cmpR ho ha hb hm) fun σ H Q h => by
    refine op_core (pa := pa) (pb := pb) hf σ H _ ?_
    obtain ⟨n, pn, s, R, Mr, pr, q⟩ := h
    refine ⟨n, pn, s, R, Mr, pr, Post.mono q fun d s' n' R' H' l ep rl q v o => ?_⟩
    obtain ⟨r, x, o⟩ := o
    cases d <;> first | (exact False.elim q; done) | skip
    obtain ⟨rfl, rfl⟩ := x
    exact ⟨_, rfl, q n' R' H' l ep rl o.drop⟩
def mNotB (m : M Bool) : M Bool := fun s => (m s).bind fun c s1 => .ok (!c) s1
theorem st_not {m : M Bool} (h : ST X g W p a m) : ST X g W p (.UnaryOp .Not a pos) (mNotB m) :=
  PT.imp (pt_not h) fun σ H Q ⟨n, pn, s, R, Mr, pr, q⟩ => ⟨n, pn, s, R, Mr, pr, Post.mono q fun c s' n' R' H' l ep rl q o => q n' R' H' l ep rl o⟩
theorem SW.st {m : M Bool} (h : SW X g W p e m) : ST X g W p e m := PW.pt h
def mAndB (m k : M Bool) : M Bool := fun s => (m s).bind fun c s1 => if c = true then k s1 else .ok false s1
def mOrB (m k : M Bool) : M Bool := fun s => (m s).bind fun c s1 => if c = true then .ok true s1 else k s1
theorem sw_and1 {m : M Bool} (h : ST X g W p a m) : SW X g W p (.BoolOp .And [a] pos) m := pw_and1 h
theorem sw_or1 {m : M Bool} (h : ST X g W p a m) : SW X g W p (.BoolOp .Or [a] pos) m := pw_or1 h
theorem sw_and {rest : List Expr} {m k : M Bool} (ha : ST X g W pa a m) (hb : SW X g W pb (.BoolOp .And (b :: rest) pos) k) : SW X g W (pa && pb) (.BoolOp .And (a :: b :: rest) pos) (mAndB m k) :=
  PW.imp (pw_and ha hb) fun σ H Q ⟨n, pn, s, R, Mr, pr, q⟩ => ⟨n, pn, s, R, Mr, pr, by
    unfold mAndB at q
    cases hm : m s with
    | bad => rw [hm] at q; exact q
    | er e s' => rw [hm] at q; exact q
    | ok c s1 =>
      rw [hm, Rz.bind_ok] at q
      intro n1 R1 H1 l1 e1 rl1 o1
      cases c with
      | true => exact ⟨n1, pn, s1, R1, Mr, ⟨pg l1 pr.1, rl1, o1⟩, Post.from l1 e1 q (Sub.refl _) fun a n2 R2 H2 _ z => z⟩
      | false => exact q n1 R1 H1 l1 (fun z => e1 (by cases pa <;> first | rfl | cases z)) rl1 o1⟩
theorem sw_or {rest : List Expr} {m k : M Bool} (ha : ST X g W pa a m) (hb : SW X g W pb (.BoolOp .Or (b :: rest) pos) k) : SW X g W (pa && pb) (.BoolOp .Or (a :: b :: rest) pos) (mOrB m k) :=
  PW.imp (pw_or ha hb) fun σ H Q ⟨n, pn, s, R, Mr, pr, q⟩ => ⟨n, pn, s, R, Mr, pr, by
    unfold mOrB at q
    cases hm : m s with
    | bad => rw [hm] at q; exact q
    | er e s' => rw [hm] at q; exact q
    | ok c s1 =>
      rw [hm, Rz.bind_ok] at q
      intro n1 R1 H1 l1 e1 rl1 o1
      cases c with
      | false => exact ⟨n1, pn, s1, R1, Mr, ⟨pg l1 pr.1, rl1, o1⟩, Post.from l1 e1 q (Sub.refl _) fun a n2 R2 H2 _ z => z⟩
      | true => exact q n1 R1 H1 l1 (fun z => e1 (by cases pa <;> first | rfl | cases z)) rl1 o1⟩
/-! .. as values -/
def mAndV (m k : M D) : M D := fun s => (m s).bind fun d s1 => match d with
  | .bl c => if c = true then k s1 else .ok (.bl false) s1
  | _ => .bad
def mOrV (m k : M D) : M D := fun s => (m s).bind fun d s1 => match d with
  | .bl c => if c = true then .ok (.bl true) s1 else k s1
  | _ => .bad
theorem se_one {k : Kd} {op : BoolOp} (h : SE X g W k p a ma) : SE X g W k p (.BoolOp op [a] pos) ma := pe_one h
theorem se_and {k : Kd} {rest : List Expr} (ha : SE X g W .E pa a ma) (hb : SE X g W k pb (.BoolOp .And (b :: rest) pos) mb) : SE X g W k (pa && pb) (.BoolOp .And (a :: b :: rest) pos) (mAndV ma mb) :=
  PE.imp (pe_and ha hb) fun σ H Q ⟨n, pn, s, R, Mr, pr, q⟩ => ⟨n, pn, s, R, Mr, pr, by
    unfold mAndV at q
    cases hm : ma s with
    | bad => rw [hm] at q; exact q
    | er e s' => rw [hm] at q; exact q
    | ok d s1 =>
      rw [hm, Rz.bind_ok] at q
      intro n1 R1 H1 l1 e1 rl1 v o1
      obtain ⟨t, r, x, _, o1⟩ := o1
      cases d <;> first | (exact False.elim q; done) | skip
      rename_i c
      obtain ⟨rfl, rfl⟩ := x
      refine ⟨c, rfl, ?_⟩
      cases c with
      | true => exact ⟨n1, pn, s1, R1, Mr, ⟨pg l1 pr.1, rl1, o1.drop⟩, Post.from l1 e1 q (Sub.refl _) fun a n2 R2 H2 _ z => z⟩
      | false => exact q n1 R1 H1 l1 (fun z => e1 (by cases pa <;> first | rfl | cases z)) rl1 _ (Kd.atom ⟨rfl, rfl⟩ o1.drop)⟩
theorem se_or {k : Kd} {rest : List Expr} (ha : SE X g W .E pa a ma) (hb : SE X g W k pb (.BoolOp .Or (b :: rest) pos) mb) : SE X g W k (pa && pb) (.BoolOp .Or (a :: b :: rest) pos) (mOrV ma mb) :=
  PE.imp (pe_or ha hb) fun σ H Q ⟨n, pn, s, R, Mr, pr, q⟩ => ⟨n, pn, s, R, Mr, pr, by
    unfold mOrV at q
    cases hm : ma s with
    | bad => rw [hm] at q; exact q
    | er e s' => rw [hm] at q; exact q
    | ok d s1 =>
      rw [hm, Rz.bind_ok] at q
      intro n1 R1 H1 l1 e1 rl1 v o1
      obtain ⟨t, r, x, _, o1⟩ := o1
      cases d <;> first | (exact False.elim q; done) | skip
      rename_i c
      obtain ⟨rfl, rfl⟩ := x
      refine ⟨c, rfl, ?_⟩
      cases c with
      | false => exact ⟨n1, pn, s1, R1, Mr, ⟨pg l1 pr.1, rl1, o1.drop⟩, Post.from l1 e1 q (Sub.refl _) fun a n2 R2 H2 _ z => z⟩
      | true => exact q n1 R1 H1 l1 (fun z => e1 (by cases pa <;> first | rfl | cases z)) rl1 _ (Kd.atom ⟨rfl, rfl⟩ o1.drop)⟩
theorem Post.pw {α : Type} {p' : Bool} {pn : Ct} {n : En} {s : MS} {σ : L2.St} {R Mr : Rs} {fin : α → En → Rs → Hp → Prop} {r : Rz α} (h : Post g W p pn n s σ R Mr fin r) (k : p = true → p' = true) : Post g W p' pn n s σ R Mr fin r := by
  cases r with
  | bad => exact h
  | er e s' => exact h
  | ok a s' => exact fun n' R' H' l e r => h n' R' H' l (fun z => e (k z)) r
/-- a if c else b -/
def mIfE {α : Type} (mc : M Bool) (m k : M α) : M α := fun s => (mc s).bind fun c s1 => if c = true then m s1 else k s1
theorem se_if {k : Kd} {c : Expr} {mc : M Bool} {pc : Bool} (hc : ST X g W pc c mc) (ha : SE X g W k pa a ma) (hb : SE X g W k pb b mb) : SE X g W k (pc && (pa && pb)) (.IfExp c a b pos) (mIfE mc ma mb) :=
  PE.imp (pe_ifExp hc ha hb) fun σ H Q ⟨n, pn, s, R, Mr, pr, q⟩ => ⟨n, pn, s, R, Mr, pr, by
    unfold mIfE at q
    cases hm : mc s with
    | bad => rw [hm] at q; exact q
    | er e s' => rw [hm] at q; exact q
    | ok c s1 =>
      rw [hm, Rz.bind_ok] at q
      intro n1 R1 H1 l1 e1 rl1 o1
      have ep : ∀ {pz : Bool}, (pc && pz) = true → n1.wa = n.wa ∧ R1 = R ∧ s1 = s := fun z => e1 (by cases pc <;> first | rfl | cases z)
      cases c with
      | true =>
        refine ⟨n1, pn, s1, R1, Mr, ⟨pg l1 pr.1, rl1, o1⟩, ?_⟩
        refine Post.from (pa := pc) (pb := pa) l1 e1 ?_ (Sub.refl _) fun a n2 R2 H2 _ z => z
        exact Post.pw q fun z => by revert z; cases pc <;> cases pa <;> cases pb <;> decide
      | false =>
        refine ⟨n1, pn, s1, R1, Mr, ⟨pg l1 pr.1, rl1, o1⟩, ?_⟩
        refine Post.from (pa := pc) (pb := pb) l1 e1 ?_ (Sub.refl _) fun a n2 R2 H2 _ z => z
        exact Post.pw q fun z => by revert z; cases pc <;> cases pa <;> cases pb <;> decide⟩
end
end Mi

namespace Mi
open PySem PySem.Spec PyProof.Rows Hk
open L2 hiding Takes XE CX takes_of passes_call MkP PMk ps_raise mk_of ps_try_as passAt pmk_own
open L2N (Takes XE CX takes_of passes_call MkP PMk ps_raise mk_of ps_try_as passAt pmk_own)
section
variable {X : Cx} {g : Gj} {W : WX} {p pa pb : Bool} {a b e o : Expr} {es : List Expr} {ma mb m : M D} {ms : M (List D)} {pos : Pos}
/-! ### argument lists -/
def mNil : M (List D) := fun s => .ok [] s
def mCons (m : M D) (ms : M (List D)) : M (List D) := fun s => (m s).bind fun d s1 => (ms s1).bind fun ds s2 => .ok (d :: ds) s2
theorem sa_nil : SA X g W true [] mNil := PA.imp pa_nil fun σ H Q ⟨n, pn, s, R, Mr, pr, q⟩ => q n R H (En.le.refl n) (fun _ => ⟨rfl, rfl, rfl⟩) pr.2.1 [] ⟨rfl, rfl⟩ pr.2.2
theorem sa_cons (ha : SE X g W .C pa e m) (hb : SA X g W pb es ms) (hs : starEach (e :: es) X.env = (false, eval e X.env) :: starEach es X.env := by rfl) : SA X g W (pa && pb) (e :: es) (mCons m ms) :=
  PA.imp (pa_cons ha hb hs) fun σ H Q ⟨n, pn, s, R, Mr, pr, q⟩ => by
    refine ⟨n, pn, s, R, Mr, pr, ?_⟩
    unfold mCons at q
    cases hm : m s with
    | bad => rw [hm] at q; exact q
    | er e s' => rw [hm] at q; exact q
    | ok d s1 =>
      rw [hm, Rz.bind_ok] at q
      intro n1 R1 H1 l1 e1 rl1 v o1
      refine ⟨n1, pn, s1, R1, Mr, ⟨pg l1 pr.1, rl1, o1.2⟩, ?_⟩
      cases hk : ms s1 with
      | bad => rw [hk] at q; exact q
      | er e s' =>
        rw [hk] at q
        exact fun n2 R2 H2 l2 r2 o2 => q n2 R2 H2 (l1.trans l2) r2 o2
      | ok ds s2 =>
        rw [hk, Rz.bind_ok] at q
        intro n2 R2 H2 l2 e2 rl2 vs x2 o2
        refine q n2 R2 H2 (l1.trans l2) (fun z => ?_) rl2 (v :: vs) ⟨v, vs, 0, 0, rfl, (Rs.zero_add 0).symm, o1.1.mono l2, x2⟩ o2
        rw [Bool.and_eq_true] at z
        obtain ⟨a1, a2, a3⟩ := e1 z.1
        obtain ⟨b1, b2, b3⟩ := e2 z.2
        exact ⟨b1.trans a1, b2.trans a2, b3.trans a3⟩
/-- what is made of the arguments -/
def ListS (g : Gd) (r : List V → Hp → VK → Prop) (f : List D → Option D) : Prop := ∀ (n : En) (ds : List D) (vs : List V) (d : D) (T : Rs) (H : Hp) (Q : VK), n.g = g → EncL n ds vs 0 → Ok n.B T H → f ds = some d → Nw n T d Q → r vs H Q
def mArgs (f : List D → Option D) (ms : M (List D)) : M D := fun s => (ms s).bind fun ds s1 => mOpt (f ds) s1
theorem args_core {r : List V → Hp → VK → Prop} {f : List D → Option D} (hf : ListS g.toGd r f) (σ : L2.St) (H : Hp) (Q : VK) (h : tE g W .F p (mArgs f ms) σ H Q) : tA g W p ms σ H fun vs H1 => r vs H1 Q := by
  obtain ⟨n, pn, s, R, Mr, pr, q⟩ := h
  refine ⟨n, pn, s, R, Mr, pr, Post.mono q fun ds s1 n1 R1 H1 l1 e1 rl1 q vs x o => ?_⟩
  cases hd : f ds with
  | none => rw [hd] at q; exact False.elim q
  | some d =>
    rw [hd] at q
    exact hf n1 ds vs d (R1 + Mr) H1 Q (pg l1 pr.1).1 x o hd fun n3 v rn H' l3 w3 x o => q n3 R1 H' (l1.trans l3) (fun z => ⟨w3.trans (e1 z).1, (e1 z).2⟩) (rl1.mono l3 w3) v ⟨rn, x, o⟩
def dTup (ds : List D) : Option D := if ds.length ≤ 16777216 then some (.tup ds) else none
def dLst (ds : List D) : Option D := if ds.length ≤ 16777216 then some (.lst .o ds) else none
theorem sf_tup {x1} (h : SA X g W p es ms) : SE X g W .F p (.Tuple es x1 pos) (mArgs dTup ms) :=
  PE.imp (pe_tup h) fun σ H Q q => args_core (r := fun xs H1 Q => xs.length ≤ sizeLine ∧ ∀ p, H1 p = none → Q (.ref p) (upd H1 p (.tup xs))) (fun n ds vs d T H Q hg x o e q => by
    have e : (if ds.length ≤ 16777216 then some (D.tup ds) else none) = some d := e
    by_cases hz : ds.length ≤ 16777216
    · rw [if_pos hz] at e
      cases e
      exact ⟨by rw [x.len, sizeLine_eq]; exact hz, q.tup x o⟩
    · rw [if_neg hz] at e; cases e) σ H Q q
theorem sf_lst (h : SA X g W p es ms) : SE X g W .F p (.List es pos) (mArgs dLst ms) :=
  PE.imp (pe_lst h) fun σ H Q q => args_core (r := fun xs H1 Q => xs.length ≤ sizeLine ∧ ∀ p, H1 p = none → Q (.ref p) (upd H1 p (.lst xs))) (fun n ds vs d T H Q hg x o e q => by
    have e : (if ds.length ≤ 16777216 then some (D.lst .o ds) else none) = some d := e
    by_cases hz : ds.length ≤ 16777216
    · rw [if_pos hz] at e
      cases e
      exact ⟨by rw [x.len, sizeLine_eq]; exact hz, q.lst x o⟩
    · rw [if_neg hz] at e; cases e) σ H Q q
/-! ### built-in functions -/
section
variable {r : List V → Hp → VK → Prop} {x : Str} {q : Pos} {id T : String}
theorem sf_callB {f : List D → Option D} (hc : CallR X (.builtin id) r) (hf : ListS g.toGd r f) (hg : Gl X x) (hm : X.mg x = none) (hv : bootBuiltins x = some (.builtin id)) (ha : SA X g W p (e :: es) ms) (hn : x ≠ "__name__" := by decide) (hdb : (x == ("__debug__" : Str)) = false := by decide)
    (he : starEach (e :: es) X.env = (false, eval e X.env) :: starEach es X.env := by rfl) (hpl : (backTo pos (starEach es X.env)).any (·.1) = false := by rfl) : SE X g W .F p (.Call (.Name x q) (e :: es) [] pos) (mArgs f ms) :=
  PE.imp (pe_callB hc hg hm hv ha hn hdb he hpl) fun σ H Q h => args_core hf σ H Q h
theorem sf_callTy {f : List D → Option D} (hc : CallR X (.type T) r) (hf : ListS g.toGd r f) (hg : Gl X x) (hm : X.mg x = none) (hv : bootBuiltins x = some (.type T)) (ha : SA X g W p (e :: es) ms) (hn : x ≠ "__name__" := by decide) (hdb : (x == ("__debug__" : Str)) = false := by decide)
    (he : starEach (e :: es) X.env = (false, eval e X.env) :: starEach es X.env := by rfl) (hpl : (backTo pos (starEach es X.env)).any (·.1) = false := by rfl) : SE X g W .F p (.Call (.Name x q) (e :: es) [] pos) (mArgs f ms) :=
  PE.imp (pe_callTy hc hg hm hv ha hn hdb he hpl) fun σ H Q h => args_core hf σ H Q h
/-- one operand that is only read -/
theorem sf_call1B {f : D → Option D} (hc : CallR X (.builtin id) r) (hf : Op1 g.toGd (fun v H Q => r [v] H Q) f) (hg : Gl X x) (hm : X.mg x = none) (hv : bootBuiltins x = some (.builtin id)) (ha : SE X g W .E p e m) (hn : x ≠ "__name__" := by decide) (hdb : (x == ("__debug__" : Str)) = false := by decide)
    (he : starEach [e] X.env = (false, eval e X.env) :: starEach [] X.env := by rfl) (hpl : (backTo pos (starEach [] X.env)).any (·.1) = false := by rfl) : SE X g W .F p (.Call (.Name x q) [e] [] pos) (mUn f m) :=
  PE.imp (pe_callB hc hg hm hv (pa_cons ha pa_nil he) hn hdb he hpl) fun σ H Q h => un_core hf σ H Q h
theorem sf_call1Ty {f : D → Option D} (hc : CallR X (.type T) r) (hf : Op1 g.toGd (fun v H Q => r [v] H Q) f) (hg : Gl X x) (hm : X.mg x = none) (hv : bootBuiltins x = some (.type T)) (ha : SE X g W .E p e m) (hn : x ≠ "__name__" := by decide) (hdb : (x == ("__debug__" : Str)) = false := by decide)
    (he : starEach [e] X.env = (false, eval e X.env) :: starEach [] X.env := by rfl) (hpl : (backTo pos (starEach [] X.env)).any (·.1) = false := by rfl) : SE X g W .F p (.Call (.Name x q) [e] [] pos) (mUn f m) :=
  PE.imp (pe_callTy hc hg hm hv (pa_cons ha pa_nil he) hn hdb he hpl) fun σ H Q h => un_core hf σ H Q h
/-- list() -/
theorem sf_list0 (hg : Gl X "list") (hm : X.mg "list" = none) (hcl : ∀ Q H, r [] H Q ↔ ∀ l, H l = none → Q (.ref l) (upd H l (.lst []))) (hc : CallR X (.type "list") r) : SE X g W .F true (.Call (.Name "list" q) [] [] pos) (mC (.lst .o [])) :=
  PE.imp (pe_callTy0 hc hg hm (by decide +kernel)) fun σ H Q ⟨n, pn, s, R, Mr, pr, q⟩ => by
    refine (hcl Q H).mpr fun l hl => ?_
    have nw : Nw n (R + Mr) (.lst .o []) Q := fun n3 v rn H' l3 w3 x o => q n3 R H' l3 (fun z => ⟨w3, rfl, rfl⟩) (pr.2.1.mono l3 w3) v ⟨rn, x, o⟩
    exact nw.lst ⟨rfl, rfl⟩ pr.2.2 l hl
end
/-! the values -/
def dLen : D → Option D
  | .str x => if x.length ≤ 16777216 then some (.int x.length) else none
  | .tup ds => some (.int ds.length)
  | .lst _ ds => some (.int ds.length)
  | _ => none
theorem s_len {g : Gd} (hK : X.K = g.K) : Op1 g (fun v H Q => ∃ x n, [v] = [x] ∧ LenV X.K x H n ∧ Q (.int n) H) dLen := by
  intro n d1 v1 r1 d T H Q hg x u o e q
  subst hg
  cases d1 <;> first | (cases e; done) | skip
  · rename_i z
    have e : (if z.length ≤ 16777216 then some (D.int z.length) else none) = some d := e
    obtain ⟨rfl, _⟩ := x
    by_cases hz : z.length ≤ 16777216
    · rw [if_pos hz] at e
      cases e
      exact ⟨_, z.length, rfl, ⟨by rw [sizeLine_eq]; exact hz, rfl⟩, q.atom ⟨rfl, rfl⟩ o⟩
    · rw [if_neg hz] at e; cases e
  · rename_i ds
    cases e
    obtain ⟨a, vs, rfl, hq, hl⟩ := x.tup o
    exact ⟨_, ds.length, rfl, .inr ⟨vs, hK ▸ hq, hl.len.symm⟩, q.atom ⟨rfl, rfl⟩ o⟩
  · rename_i m ds
    cases e
    obtain ⟨a, vs, r', rfl, hq, hl, _, _⟩ := x.seq o u
    exact ⟨_, ds.length, rfl, .inl ⟨vs, hK ▸ hq, hl.len.symm⟩, q.atom ⟨rfl, rfl⟩ o⟩
theorem dic_at {n : En} {m : Bool} {ks : List Key} {ds : List D} {v : V} {r T : Rs} {H : Hp} (x : Enc n (.dic m ks ds) v r) (o : Ok n.B T H) (u : Sub r T) :
    ∃ a vs r', v = .ref a ∧ H a = some (.dK (ks.zip vs)) ∧ EncL n ds vs r' ∧ Sub r' T ∧ ks.length = ds.length := by
  cases m with
  | true =>
    obtain ⟨a, vs, r', rfl, rfl, hl, k⟩ := x
    exact ⟨a, vs, r', rfl, o.at (Sub.trans ⟨r', rfl⟩ u), hl, Sub.trans ⟨Rs.one a (.dK (ks.zip vs)), by ac_rfl⟩ u, k⟩
  | false =>
    obtain ⟨rfl, a, vs, rfl, e, hl, k⟩ := x
    exact ⟨a, vs, 0, rfl, o.same _ _ e, hl, Sub.zero _, k⟩
def dLenD : D → Option D
  | .dic _ ks _ => some (.int ks.length)
  | _ => none
theorem s_lenD {g : Gd} : Op1 g (fun v H Q => ∃ a kvs, [v] = [V.ref a] ∧ H a = some (.dK kvs) ∧ Q (.int kvs.length) H) dLenD := by
  intro n d1 v1 r1 d T H Q hg x u o e q
  cases d1 <;> first | (cases e; done) | skip
  rename_i m ks ds
  cases e
  obtain ⟨a, vs, r', rfl, eh, hl, _, k⟩ := dic_at x o u
  refine ⟨a, _, rfl, eh, ?_⟩
  rw [List.length_zip, hl.len, k, Nat.min_self, ← k]
  exact q.atom ⟨rfl, rfl⟩ o
def dInt : D → Option D
  | .int i => some (.int i)
  | .bl b => some (.int (if b then 1 else 0))
  | _ => none
theorem s_int {g : Gd} : Op1 g (fun v H Q => (∃ i, [v] = [V.int i] ∧ Q (.int i) H) ∨ ∃ k, [v] = [V.bl k] ∧ Q (.int (if k then 1 else 0)) H) dInt := by
  intro n d1 v1 r1 d T H Q hg x u o e q
  cases d1 <;> cases e <;> obtain ⟨rfl, _⟩ := x
  · exact .inr ⟨_, rfl, q.atom ⟨rfl, rfl⟩ o⟩
  · exact .inl ⟨_, rfl, q.atom ⟨rfl, rfl⟩ o⟩
def dAbs : D → Option D
  | .int i => some (.int (if i < 0 then -i else i))
  | _ => none
theorem s_abs {g : Gd} : Op1 g (fun v H Q => ∃ i, [v] = [V.int i] ∧ Q (.int (if i < 0 then -i else i)) H) dAbs := by
  intro n d1 v1 r1 d T H Q hg x u o e q
  cases d1 <;> cases e
  obtain ⟨rfl, _⟩ := x
  exact ⟨_, rfl, q.atom ⟨rfl, rfl⟩ o⟩
def dOrd : D → Option D
  | .str x => if x.length = 1 then some (.int (x.cps.getD 0 0 : Nat)) else none
  | _ => none
theorem s_ord {g : Gd} : Op1 g (fun v H Q => ∃ x, [v] = [V.str x] ∧ x.length = 1 ∧ Q (.int (x.cps.getD 0 0 : Nat)) H) dOrd := by
  intro n d1 v1 r1 d T H Q hg x u o e q
  cases d1 <;> first | (cases e; done) | skip
  rename_i z
  have e : (if z.length = 1 then some (D.int (z.cps.getD 0 0 : Nat)) else none) = some d := e
  obtain ⟨rfl, _⟩ := x
  by_cases hz : z.length = 1
  · rw [if_pos hz] at e
    cases e
    exact ⟨_, rfl, hz, q.atom ⟨rfl, rfl⟩ o⟩
  · rw [if_neg hz] at e; cases e
def dChr : D → Option D
  | .int i => if 0 ≤ i ∧ i ≤ 1114111 then some (.str ⟨#[i.toNat]⟩) else none
  | _ => none
theorem s_chr {g : Gd} : Op1 g (fun v H Q => ∃ i, [v] = [V.int i] ∧ 0 ≤ i ∧ i ≤ 1114111 ∧ Q (.str ⟨#[i.toNat]⟩) H) dChr := by
  intro n d1 v1 r1 d T H Q hg x u o e q
  cases d1 <;> first | (cases e; done) | skip
  rename_i i
  have e : (if 0 ≤ i ∧ i ≤ 1114111 then some (D.str ⟨#[i.toNat]⟩) else none) = some d := e
  obtain ⟨rfl, _⟩ := x
  by_cases hz : 0 ≤ i ∧ i ≤ 1114111
  · rw [if_pos hz] at e
    cases e
    exact ⟨_, rfl, hz.1, hz.2, q.atom ⟨rfl, rfl⟩ o⟩
  · rw [if_neg hz] at e; cases e
def dStrI : D → Option D
  | .int i => if i.natAbs.log2 < 1920 then some (.str (toString i)) else none
  | _ => none
theorem s_strI {g : Gd} : Op1 g (fun v H Q => ∃ i, [v] = [V.int i] ∧ i.natAbs.log2 < 1920 ∧ Q (.str (toString i)) H) dStrI := by
  intro n d1 v1 r1 d T H Q hg x u o e q
  cases d1 <;> first | (cases e; done) | skip
  rename_i i
  have e : (if i.natAbs.log2 < 1920 then some (D.str (toString i)) else none) = some d := e
  obtain ⟨rfl, _⟩ := x
  by_cases hz : i.natAbs.log2 < 1920
  · rw [if_pos hz] at e
    cases e
    exact ⟨_, rfl, hz, q.atom ⟨rfl, rfl⟩ o⟩
  · rw [if_neg hz] at e; cases e
def dMin2 : List D → Option D
  | [.int i, .int j] => some (.int (if j < i then j else i))
  | _ => none
def dMax2 : List D → Option D
  | [.int i, .int j] => some (.int (if j > i then j else i))
  | _ => none
theorem encL_2 {n : En} {d e : D} {vs : List V} (h : EncL n [d, e] vs 0) : ∃ v w, vs = [v, w] ∧ Enc n d v 0 ∧ Enc n e w 0 := by
  obtain ⟨v, vs', r1, r2, rfl, e1, h1, w, vs'', r3, r4, rfl, e2, h2, rfl, rfl⟩ := h
  obtain ⟨rfl, rfl⟩ := Rs.zero_of_add e1
  obtain ⟨rfl, _⟩ := Rs.zero_of_add e2
  exact ⟨v, w, rfl, h1, h2⟩
theorem s_min2 {g : Gd} : ListS g (fun xs H Q => ∃ i j, xs = [V.int i, V.int j] ∧ Q (.int (if j < i then j else i)) H) dMin2 := by
  intro n ds vs d T H Q hg x o e q
  unfold dMin2 at e
  split at e <;> cases e
  obtain ⟨v, w, rfl, ⟨rfl, _⟩, ⟨rfl, _⟩⟩ := encL_2 x
  exact ⟨_, _, rfl, q.atom ⟨rfl, rfl⟩ o⟩
theorem s_max2 {g : Gd} : ListS g (fun xs H Q => ∃ i j, xs = [V.int i, V.int j] ∧ Q (.int (if j > i then j else i)) H) dMax2 := by
  intro n ds vs d T H Q hg x o e q
  unfold dMax2 at e
  split at e <;> cases e
  obtain ⟨v, w, rfl, ⟨rfl, _⟩, ⟨rfl, _⟩⟩ := encL_2 x
  exact ⟨_, _, rfl, q.atom ⟨rfl, rfl⟩ o⟩
def dList : D → Option D
  | .lst _ ds => if cpL ds = true then some (.lst .o ds) else none
  | .tup ds => some (.lst .o ds)
  | _ => none
theorem s_list {g : Gd} : Op1 g (fun v H Q => rList g.K [v] H Q) dList := by
  intro n d1 v1 r1 d T H Q hg x u o e q
  subst hg
  cases d1 <;> first | (cases e; done) | skip
  · rename_i ds
    cases e
    obtain ⟨a, vs, rfl, hq, hl⟩ := x.tup o
    exact ⟨a, vs, rfl, .inr hq, q.lst hl o⟩
  · rename_i m ds
    have e : (if cpL ds = true then some (D.lst .o ds) else none) = some d := e
    cases c : cpL ds with
    | false => rw [c] at e; cases e
    | true =>
      rw [c, if_pos rfl] at e
      cases e
      obtain ⟨a, vs, r', rfl, hq, hl, _, _⟩ := x.seq o u
      have z := hl.cp c
      subst z
      exact ⟨a, vs, rfl, .inl hq, q.lst hl o⟩
def dTuple : D → Option D
  | .lst _ ds => if cpL ds = true then some (.tup ds) else none
  | .tup ds => some (.tup ds)
  | _ => none
theorem s_tuple {g : Gd} : Op1 g (fun v H Q => rTupleOf g.K [v] H Q) dTuple := by
  intro n d1 v1 r1 d T H Q hg x u o e q
  subst hg
  cases d1 <;> first | (cases e; done) | skip
  · rename_i ds
    cases e
    have y := x
    obtain ⟨a, vs, rfl, hq, hl⟩ := x.tup o
    obtain rfl := y.1
    exact ⟨a, vs, rfl, .inr ⟨hq, q.atom y o⟩⟩
  · rename_i m ds
    have e : (if cpL ds = true then some (D.tup ds) else none) = some d := e
    cases c : cpL ds with
    | false => rw [c] at e; cases e
    | true =>
      rw [c, if_pos rfl] at e
      cases e
      obtain ⟨a, vs, r', rfl, hq, hl, _, _⟩ := x.seq o u
      have z := hl.cp c
      subst z
      exact ⟨a, vs, rfl, .inl ⟨hq, q.tup hl o⟩⟩
def dRev : D → Option D
  | .lst _ ds => if cpL ds = true then some (.lst .o ds.reverse) else none
  | _ => none
theorem encL_rev {n : En} : ∀ {ds : List D} {vs : List V}, EncL n ds vs 0 → EncL n ds.reverse vs.reverse 0
  | [], _, h => by rw [h.1]; exact ⟨rfl, rfl⟩
  | d :: ds, _, h => by
    obtain ⟨v, vs', r1, r2, rfl, e, h1, h2⟩ := h
    obtain ⟨rfl, rfl⟩ := Rs.zero_of_add e
    rw [List.reverse_cons, List.reverse_cons]
    have := (encL_rev h2).app (EncL.one h1)
    rw [Rs.add_zero] at this
    exact this
theorem sf_listRev {q1 q2 pos2 : Pos} (hc : X.calm = true) (hK : X.K = g.K) (hm : X.mg "list" = none) (hm2 : X.mg "reversed" = none) (ha : SE X g W .E p e m) (hg : Gl X "list" := by rfl) (hg2 : Gl X "reversed" := by rfl)
    (hs : starEach [e] X.env = (false, eval e X.env) :: starEach [] X.env := by rfl)
    (hs2 : starEach [.Call (.Name "reversed" q2) [e] [] pos2] X.env = (false, eval (.Call (.Name "reversed" q2) [e] [] pos2) X.env) :: starEach [] X.env := by rfl) :
    SE X g W .F p (.Call (.Name "list" q1) [.Call (.Name "reversed" q2) [e] [] pos2] [] pos) (mUn dRev m) :=
  PE.imp (pe_listRev (K := g.K) hc hm hm2 ha hg hg2 hs hs2 hK) fun σ H Q h => un_core (r := fun v H1 Q => ∃ (a : Addr) (xs : List V), v = .ref a ∧ SqL g.K H1 a xs ∧ ∀ q, H1 q = none → Q (.ref q) (upd H1 q (.lst xs.reverse))) (fun n d1 v1 r1 d T H Q hg x u o e q => by
    have hk : n.g.K = g.K := by rw [hg]
    cases d1 <;> first | (cases e; done) | skip
    rename_i m ds
    have e : (if cpL ds = true then some (D.lst .o ds.reverse) else none) = some d := e
    cases c : cpL ds with
    | false => rw [c] at e; cases e
    | true =>
      rw [c, if_pos rfl] at e
      cases e
      obtain ⟨a, vs, r', rfl, hq, hl, _, _⟩ := x.seq o u
      have z := hl.cp c
      subst z
      exact ⟨a, vs, rfl, hk ▸ hq, q.lst (encL_rev hl) o⟩) σ H Q h
/-- intsD of a list -/
def intsD : List D → Option (List Int)
  | [] => some []
  | .int i :: ds => (intsD ds).map fun is => i :: is
  | _ :: _ => none
theorem ints_enc {n : En} : ∀ {ds : List D} {is : List Int} {vs : List V} {r : Rs}, intsD ds = some is → EncL n ds vs r → vs = is.map V.int
  | [], _, _, _, e, h => by cases e; exact h.1
  | d :: ds, _, _, _, e, h => by
    obtain ⟨v, vs', r1, r2, rfl, rfl, h1, h2⟩ := h
    cases d <;> first | (cases e; done) | skip
    rename_i i
    have e : (intsD ds).map (fun is => i :: is) = some _ := e
    cases ed : intsD ds with
    | none => rw [ed] at e; cases e
    | some js =>
      rw [ed] at e
      cases e
      obtain ⟨rfl, _⟩ := h1
      rw [ints_enc ed h2]
      rfl
theorem ints_map (is : List Int) : intsD (is.map D.int) = some is := by
  induction is with
  | nil => rfl
  | cons i is ih => show (intsD (is.map D.int)).map (fun js => i :: js) = _; rw [ih]; rfl
def dSum : D → Option D
  | .lst _ ds => (intsD ds).map fun is => .int is.sum
  | _ => none
theorem s_sum {g : Gd} : Op1 g (fun v H Q => rSum g.K [v] H Q) dSum := by
  intro n d1 v1 r1 d T H Q hg x u o e q
  subst hg
  cases d1 <;> first | (cases e; done) | skip
  rename_i m ds
  have e : (intsD ds).map (fun is => D.int is.sum) = some d := e
  cases ed : intsD ds with
  | none => rw [ed] at e; cases e
  | some is =>
    rw [ed] at e
    cases e
    obtain ⟨a, vs, r', rfl, hq, hl, _, _⟩ := x.seq o u
    rw [ints_enc ed hl] at hq
    exact ⟨a, is, rfl, hq, q.atom ⟨rfl, rfl⟩ o⟩
/-! ### slices -/
def SO (X : Cx) (g : Gj) (W : WX) (p : Bool) (e : Option Expr) (m : M (Option Int)) : Prop :=
  PO X e fun σ H Q => ∃ n pn s R Mr, Pre g n pn s σ R Mr H ∧ Post g W p pn n s σ R Mr (finB Mr Q) (m s)
def mNoP : M (Option Int) := fun s => .ok none s
def mSoP (m : M D) : M (Option Int) := fun s => (m s).bind fun d s1 => match d with
  | .int i => .ok (some i) s1
  | _ => .bad
theorem so_none : SO X g W true none mNoP := ⟨fun pins s σ H Q I ⟨n, pn, ms, R, Mr, pr, q⟩ => (po_none (X := X)).run pins s σ H Q I (q n R H (En.le.refl n) (fun _ => ⟨rfl, rfl, rfl⟩) pr.2.1 pr.2.2)⟩
theorem so_some (h : SE X g W .E p e m) : SO X g W p (some e) (mSoP m) := ⟨fun pins s σ H Q I ⟨n, pn, ms, R, Mr, pr, q⟩ => (po_some h).run pins s σ H Q I (by
  unfold mSoP at q
  refine one pr q fun n1 s1 R1 T H1 d v r l1 g1 e1 rl1 x u o q => ?_
  cases d <;> first | (exact False.elim q; done) | skip
  rename_i i
  obtain ⟨rfl, _⟩ := x
  exact ⟨i, rfl, q n1 R1 H1 l1 e1 rl1 o.drop⟩)⟩
def SlS (g : Gd) (r : V → Option Int → Option Int → Hp → VK → Prop) (f : D → Option Int → Option Int → Option D) : Prop := ∀ (n : En) (d1 : D) (v1 : V) (r1 : Rs) (lo hi : Option Int) (d : D) (T : Rs) (H : Hp) (Q : VK), n.g = g → Enc n d1 v1 r1 → Sub r1 T → Ok n.B T H →
  f d1 lo hi = some d → Nw n T d Q → r v1 lo hi H Q
def mSl (f : D → Option Int → Option Int → Option D) (pp : Bool) (ma : M D) (ml mh : M (Option Int)) : M D := fun s => (ma s).bind fun d s1 => (ml s1).bind fun lo s2 => (mh s2).bind fun hi s3 => if (pp || cp d) = true then mOpt (f d lo hi) s3 else .bad
theorem sf_sl {r : V → Option Int → Option Int → Hp → VK → Prop} {f : D → Option Int → Option Int → Option D} {lo hi : Option Expr} {ml mh : M (Option Int)} {pl ph : Bool} {p2 : Pos} (hr : SlR X r) (hf : SlS g.toGd r f) (ha : SE X g W .E pa a ma) (hl : SO X g W pl lo ml) (hh : SO X g W ph hi mh) :
    SE X g W .F (pa && (pl && ph)) (.Subscript a (.Slice lo hi none p2) pos) (mSl f (pl && ph) ma ml mh) :=
  PE.imp (pe_slice hr ha hl hh) fun σ H Q ⟨n, pn, s, R, Mr, pr, q⟩ => by
    unfold mSl at q
    refine ⟨n, pn, s, R, Mr, pr, ?_⟩
    cases hm : ma s with
    | bad => rw [hm] at q; exact q
    | er e s' => rw [hm] at q; exact q
    | ok d s1 =>
      rw [hm, Rz.bind_ok] at q
      intro n1 R1 H1 l1 e1 rl1 v1 o1
      obtain ⟨t1, r1, x1, u1, o1⟩ := o1
      refine ⟨n1, pn, s1, R1, t1 + Mr, ⟨pg l1 pr.1, rl1, o1.cast (by ac_rfl)⟩, ?_⟩
      cases hm2 : ml s1 with
      | bad => rw [hm2] at q; exact q
      | er e s' =>
        rw [hm2] at q
        exact fun n2 R2 H2 l2 r2 o2 => q n2 R2 H2 (l1.trans l2) r2 ((o2.cast (show _ = t1 + (R2 + Mr) by ac_rfl)).drop)
      | ok lo s2 =>
        rw [hm2, Rz.bind_ok] at q
        intro n2 R2 H2 l2 e2 rl2 o2
        refine ⟨n2, pn, s2, R2, t1 + Mr, ⟨pg l2 (pg l1 pr.1), rl2, o2⟩, ?_⟩
        cases hm3 : mh s2 with
        | bad => rw [hm3] at q; exact q
        | er e s' =>
          rw [hm3] at q
          exact fun n3 R3 H3 l3 r3 o3 => q n3 R3 H3 ((l1.trans l2).trans l3) r3 ((o3.cast (show _ = t1 + (R3 + Mr) by ac_rfl)).drop)
        | ok hi s3 =>
          rw [hm3, Rz.bind_ok] at q
          intro n3 R3 H3 l3 e3 rl3 o3
          cases hc : ((pl && ph) || cp d) with
          | false => rw [hc] at q; exact False.elim q
          | true =>
            rw [hc, if_pos rfl] at q
            cases hd : f d lo hi with
            | none => rw [hd] at q; exact False.elim q
            | some d' =>
              rw [hd] at q
              refine hf n3 d v1 r1 lo hi d' (R3 + (t1 + Mr)) H3 Q (pg l3 (pg l2 (pg l1 pr.1))).1 ((x1.mono l2).mono l3) ?_ o3 hd fun n4 v rn H' l4 w4 x o => ?_
              · rw [Bool.or_eq_true] at hc
                rcases hc with z | z
                · rw [Bool.and_eq_true] at z
                  rw [(e3 z.2).2.1, (e2 z.1).2.1]
                  obtain ⟨u, e⟩ := u1
                  exact ⟨u + Mr, by rw [show R1 + (t1 + Mr) = (t1 + R1) + Mr by ac_rfl, e]; ac_rfl⟩
                · rw [x1.cp z]
                  exact Sub.zero _
              · refine q n4 R3 H' (((l1.trans l2).trans l3).trans l4) (fun z => ?_) (rl3.mono l4 w4) v ⟨rn, x, (o.cast (show _ = t1 + (rn + (R3 + Mr)) by ac_rfl)).drop⟩
                rw [Bool.and_eq_true, Bool.and_eq_true] at z
                obtain ⟨a1, a2, a3⟩ := e1 z.1
                obtain ⟨b1, b2, b3⟩ := e2 z.2.1
                obtain ⟨c1, c2, c3⟩ := e3 z.2.2
                exact ⟨w4.trans (c1.trans (b1.trans a1)), c2.trans (b2.trans a2), c3.trans (b3.trans a3)⟩
def cutD (ds : List D) (lo hi : Option Int) : List D := (ds.drop (HT.sIx ds.length 0 lo)).take (HT.sIx ds.length ds.length hi - HT.sIx ds.length 0 lo)
theorem encL_cut {n : En} {ds : List D} {vs : List V} (h : EncL n ds vs 0) (lo hi : Option Int) : EncL n (cutD ds lo hi) (cutV vs lo hi) 0 := by
  unfold cutD cutV
  rw [h.len]
  exact (h.drop _).take _
def dSl : D → Option Int → Option Int → Option D
  | .lst _ ds, lo, hi => if cpL ds = true then some (.lst .o (cutD ds lo hi)) else none
  | _, _, _ => none
theorem s_sl {g : Gd} : SlS g (rSlL g.K) dSl := by
  intro n d1 v1 r1 lo hi d T H Q hg x u o e q
  subst hg
  cases d1 <;> first | (cases e; done) | skip
  rename_i m ds
  have e : (if cpL ds = true then some (D.lst .o (cutD ds lo hi)) else none) = some d := e
  cases c : cpL ds with
  | false => rw [c] at e; cases e
  | true =>
    rw [c, if_pos rfl] at e
    cases e
    obtain ⟨a, vs, r', rfl, hq, hl, _, _⟩ := x.seq o u
    have z := hl.cp c
    subst z
    exact ⟨a, vs, rfl, hq, q.lst (encL_cut hl lo hi) o⟩
def dSlT : D → Option Int → Option Int → Option D
  | .tup ds, lo, hi => some (.tup (cutD ds lo hi))
  | _, _, _ => none
theorem s_slT {g : Gd} : SlS g (rSlA g.K) dSlT := by
  intro n d1 v1 r1 lo hi d T H Q hg x u o e q
  subst hg
  cases d1 <;> first | (cases e; done) | skip
  rename_i ds
  cases e
  have y := x
  obtain ⟨a, vs, rfl, hq, hl⟩ := x.tup o
  obtain rfl := y.1
  refine ⟨a, vs, rfl, hq, fun z => ?_, fun _ => q.tup (encL_cut hl lo hi) o⟩
  have e : cutD ds lo hi = ds := by
    unfold cutD
    rw [hl.len] at z
    rw [z.1, z.2, List.drop_zero, Nat.sub_zero, List.take_length]
  rw [e] at q
  exact q.atom y o
def dSlS : D → Option Int → Option Int → Option D
  | .str z, lo, hi => if z.length ≤ 16777216 then some (.str (cutS z lo hi)) else none
  | _, _, _ => none
theorem s_slS {g : Gd} : SlS g rSlS dSlS := by
  intro n d1 v1 r1 lo hi d T H Q hg x u o e q
  cases d1 <;> first | (cases e; done) | skip
  rename_i z
  have e : (if z.length ≤ 16777216 then some (D.str (cutS z lo hi)) else none) = some d := e
  obtain ⟨rfl, _⟩ := x
  by_cases hz : z.length ≤ 16777216
  · rw [if_pos hz] at e
    cases e
    exact ⟨z, rfl, by rw [sizeLine_eq]; exact hz, q.atom ⟨rfl, rfl⟩ o⟩
  · rw [if_neg hz] at e; cases e
/-! ### isinstance -/
def tyName : D → Option String
  | .non => some "NoneType"
  | .bl _ => some "bool"
  | .int _ => some "int"
  | .str _ => some "str"
  | .lst _ _ => some "list"
  | .dic _ _ _ => some "dict"
  | .tup _ => some "tuple"
  | _ => none
end
end Mi

namespace Mi
open PySem PySem.Spec PyProof.Rows Hk
open L2 hiding Takes XE CX takes_of passes_call MkP PMk ps_raise mk_of ps_try_as passAt pmk_own
open L2N (Takes XE CX takes_of passes_call MkP PMk ps_raise mk_of ps_try_as passAt pmk_own)
section
variable {X : Cx} {g : Gj} {W : WX} {p pa pb : Bool} {a b e o : Expr} {es : List Expr} {ma mb m : M D} {ms : M (List D)} {pos : Pos} {st : Stmt} {sts : List Stmt} {k k1 k2 : M Fl}
/-! ### statements -/
theorem PostS.mono {c : Ct} {n n' : En} {Mr Mr' : Rs} {Dn : Ends} {r : Rz Fl} (h : PostS g W c n Mr Dn r) (l : n.le n') (km : Sub Mr Mr') : PostS g W c n' Mr' Dn r := by
  obtain ⟨u, rfl⟩ := km
  have w : ∀ {n2 : En} {R2 : Rs} {H2 : Hp}, Ok n2.B (R2 + (Mr + u)) H2 → Ok n2.B (R2 + Mr) H2 := fun o => (o.cast (show _ = u + (_ + Mr) by ac_rfl)).drop
  cases r with
  | bad => exact h
  | er e s' => exact fun n2 R2 H2 σ2 l2 r2 o2 => h n2 R2 H2 σ2 (l.trans l2) r2 (w o2)
  | ok f s' =>
    cases f with
    | nx => exact fun n2 R2 H2 σ2 l2 r2 o2 => h n2 R2 H2 σ2 (l.trans l2) r2 (w o2)
    | bk => exact fun n2 R2 H2 σ2 l2 r2 o2 => h n2 R2 H2 σ2 (l.trans l2) r2 (w o2)
    | ct => exact fun n2 R2 H2 σ2 l2 r2 o2 => h n2 R2 H2 σ2 (l.trans l2) r2 (w o2)
    | rt d => exact fun n2 R2 H2 σ2 v r l2 r2 x o2 => h n2 R2 H2 σ2 v r (l.trans l2) r2 x ((o2.cast (show _ = u + (r + (R2 + Mr)) by ac_rfl)).drop)
def mFl (f : Fl) : M Fl := fun s => .ok f s
theorem ss_pass : SS X g W (.Pass pos) (mFl .nx) := PS.imp ps_pass fun Dn σ H ⟨n, c, s, R, Mr, pr, q⟩ => q n R H σ (En.le.refl n) pr.2.1 pr.2.2
theorem ss_break : SS X g W (.Break pos) (mFl .bk) := PS.imp ps_break fun Dn σ H ⟨n, c, s, R, Mr, pr, q⟩ => q n R H σ (En.le.refl n) pr.2.1 pr.2.2
theorem ss_cont : SS X g W (.Continue pos) (mFl .ct) := PS.imp ps_continue fun Dn σ H ⟨n, c, s, R, Mr, pr, q⟩ => q n R H σ (En.le.refl n) pr.2.1 pr.2.2
theorem ss_retN : SS X g W (.Return none pos) (mFl (.rt .non)) := PS.imp ps_retN fun Dn σ H ⟨n, c, s, R, Mr, pr, q⟩ => q n R H σ .non 0 (En.le.refl n) pr.2.1 ⟨rfl, rfl⟩ (by rw [Rs.zero_add]; exact pr.2.2)
theorem sss_nil : SSs X g W [] (mFl .nx) := PSs.imp pss_nil fun Dn σ H ⟨n, c, s, R, Mr, pr, q⟩ => q n R H σ (En.le.refl n) pr.2.1 pr.2.2
theorem sss_one (h : SS X g W st k) : SSs X g W [st] k := pss_one h
def mSeq (k1 k2 : M Fl) : M Fl := fun s => (k1 s).bind fun f s1 => match f with
  | .nx => k2 s1
  | f => .ok f s1
theorem sss_cons (h1 : SS X g W st k1) (h2 : SSs X g W sts k2) : SSs X g W (st :: sts) (mSeq k1 k2) :=
  PSs.imp (pss_cons h1 h2) fun Dn σ H ⟨n, c, s, R, Mr, pr, q⟩ => by
    refine ⟨n, c, s, R, Mr, pr, ?_⟩
    unfold mSeq at q
    cases hk : k1 s with
    | bad => rw [hk] at q; exact q
    | er e s' => rw [hk] at q; exact q
    | ok f s1 =>
      rw [hk, Rz.bind_ok] at q
      cases f with
      | nx => exact fun n2 R2 H2 σ2 l2 r2 o2 => ⟨n2, c, s1, R2, Mr, ⟨pg l2 pr.1, r2, o2⟩, PostS.mono q l2 (Sub.refl _)⟩
      | rt d => exact q
      | bk => exact q
      | ct => exact q
def mDrop (m : M D) : M Fl := fun s => (m s).bind fun _ s1 => .ok .nx s1
theorem ss_expr {kd : Kd} (h : SE X g W kd p e m) (hs : swapsWith e none pos.line X.env = pure false := by rfl) : SS X g W (.Expr e pos) (mDrop m) :=
  PS.imp (ps_expr h hs) fun Dn σ H ⟨n, c, s, R, Mr, pr, q⟩ => by
    refine ⟨n, c, s, R, Mr, pr, ?_⟩
    unfold mDrop at q
    cases hk : m s with
    | bad => rw [hk] at q; exact q
    | er e s' => rw [hk] at q; exact fun n2 R2 H2 l2 r2 o2 => q n2 R2 H2 σ l2 r2 o2
    | ok d s1 =>
      rw [hk, Rz.bind_ok] at q
      intro n2 R2 H2 l2 e2 r2 v o2
      obtain ⟨t, r, _, _, o⟩ := Kd.rd (k := kd) (d := d) (v := v) (R := R2) (Mr := Mr) o2
      exact q n2 R2 H2 σ l2 r2 o.drop
def mRet (m : M D) : M Fl := fun s => (m s).bind fun d s1 => .ok (.rt d) s1
theorem ss_ret (h : SE X g W .F p e m) : SS X g W (.Return (some e) pos) (mRet m) :=
  PS.imp (ps_ret h) fun Dn σ H ⟨n, c, s, R, Mr, pr, q⟩ => by
    refine ⟨n, c, s, R, Mr, pr, ?_⟩
    unfold mRet at q
    cases hk : m s with
    | bad => rw [hk] at q; exact q
    | er e s' => rw [hk] at q; exact fun n2 R2 H2 l2 r2 o2 => q n2 R2 H2 σ l2 r2 o2
    | ok d s1 =>
      rw [hk, Rz.bind_ok] at q
      intro n2 R2 H2 l2 e2 r2 v o2
      obtain ⟨r, x, o⟩ := o2
      exact q n2 R2 H2 σ v r l2 r2 x o
def mIf (mc : M Bool) (k1 k2 : M Fl) : M Fl := fun s => (mc s).bind fun b s1 => if b = true then k1 s1 else k2 s1
theorem ss_if {c : Expr} {mc : M Bool} {b1 b2 : List Stmt} (hc : ST X g W p c mc) (h1 : SSs X g W b1 k1) (h2 : SSs X g W b2 k2) : SS X g W (.If c b1 b2 pos) (mIf mc k1 k2) :=
  PS.imp (ps_if hc h1 h2) fun Dn σ H ⟨n, c, s, R, Mr, pr, q⟩ => by
    refine ⟨n, c, s, R, Mr, pr, ?_⟩
    unfold mIf at q
    cases hk : mc s with
    | bad => rw [hk] at q; exact q
    | er e s' => rw [hk] at q; exact fun n2 R2 H2 l2 r2 o2 => q n2 R2 H2 σ l2 r2 o2
    | ok d s1 =>
      rw [hk, Rz.bind_ok] at q
      intro n2 R2 H2 l2 e2 r2 o2
      cases d with
      | true => exact ⟨n2, c, s1, R2, Mr, ⟨pg l2 pr.1, r2, o2⟩, PostS.mono q l2 (Sub.refl _)⟩
      | false => exact ⟨n2, c, s1, R2, Mr, ⟨pg l2 pr.1, r2, o2⟩, PostS.mono q l2 (Sub.refl _)⟩
/-! ### targets -/
def SG (X : Cx) (g : Gj) (tg : Expr) (mg : D → MS → Option MS) : Prop := PG X tg fun v σ H Q => ∃ n c s R Mr d s', Pre g n c s σ R Mr H ∧ Enc n d v 0 ∧ mg d s = some s' ∧
  ∀ n' R' H' σ', n.le n' → RelS n' c s' σ' R' → Ok n'.B (R' + Mr) H' → Q σ' H'
def SGs (X : Cx) (g : Gj) (ts : List Expr) (mgs : List D → MS → Option MS) : Prop := PGs X ts fun vs σ H Q => ∃ n c s R Mr ds s', Pre g n c s σ R Mr H ∧ EncL n ds vs 0 ∧ mgs ds s = some s' ∧
  ∀ n' R' H' σ', n.le n' → RelS n' c s' σ' R' → Ok n'.B (R' + Mr) H' → Q σ' H'
/-- is a slot free to be stored to -/
def okSlot (g : Gj) (i : Nat) : Prop := (g.io.map Prod.fst).contains i = false
theorem okSlot.no {g : Gj} {i : Nat} (h : okSlot g i) : i ∉ g.io.map Prod.fst := fun m => by
  have := List.contains_iff_mem.mpr m
  rw [show (g.io.map Prod.fst).contains i = false from h] at this
  cases this
theorem pin_set {io : List (Nat × Option V)} {pn : List (Nat × V)} {σ : L2.St} {i : Nat} {x : Option V} (h : (∀ q ∈ pn, σ[q.1]? = some (some q.2)) ∧ PnOk io pn) (hi : i ∉ io.map Prod.fst) :
    (∀ q ∈ pn, (σ.set i x)[q.1]? = some (some q.2)) ∧ PnOk io pn := by
  refine ⟨fun q hq => ?_, h.2⟩
  have hne : i ≠ q.1 := fun z => hi (by rw [z, ← h.2.keys]; exact List.mem_map_of_mem hq)
  rw [List.getElem?_set_ne hne]
  exact h.1 q hq
def setFr (s : MS) (i : Nat) (d : D) : MS := { s with fr := s.fr.set i (some d) }
theorem RelS.set {n : En} {c : Ct} {s : MS} {σ : L2.St} {R r : Rs} {i : Nat} {d : D} {v : V} (h : RelS n c s σ R) (x : Enc n d v r) (hi : i < s.fr.length) (hp : i ∉ c.io.map Prod.fst) :
    ∃ R' old, RelS n c (setFr s i d) (σ.set i (some v)) R' ∧ r + R = old + R' := by
  obtain ⟨rf, rw', e1, h1, h2, h3, h4⟩ := h
  obtain ⟨r', old, h', e⟩ := h1.set i x hi
  refine ⟨r' + rw', old, ⟨r', rw', rfl, h', h2, pin_set h3 hp, h4⟩, ?_⟩
  rw [e1, ← Rs.add_assoc, e]
  ac_rfl
def mgName (i : Nat) (d : D) (s : MS) : Option MS := if i < s.fr.length then some (setFr s i d) else none
theorem sg_name {i : Nat} {x : Str} (hN : X.N.Nodup) (hi : X.N[i]? = some x) (hx : Loc X.env.scope x) (hp : okSlot g i) (hf : X.fn x = true ∨ X.env.scope.names.lookup x = some .local := by first | exact .inl rfl | exact .inr rfl | assumption) : SG X g (.Name x pos) (mgName i) := by
  refine ⟨fun pins s σ H v u Q I r ⟨n, c, ms, R, Mr, d, s', pr, x, e, q⟩ => (pg_name hN hi hx hf).run pins s σ H v u Q I r ?_⟩
  unfold mgName at e
  split at e
  · rename_i hl
    cases e
    obtain ⟨R', old, rl, er⟩ := pr.2.1.set x hl (by rw [pr.1.2]; exact hp.no)
    refine q n R' H _ (En.le.refl n) rl ?_
    rw [Rs.zero_add] at er
    have o := pr.2.2
    rw [er, Rs.add_assoc] at o
    exact o.drop
  · cases e
def mgNil : List D → MS → Option MS
  | [], s => some s
  | _, _ => none
def mgCons (mg : D → MS → Option MS) (mgs : List D → MS → Option MS) : List D → MS → Option MS
  | d :: ds, s => (mg d s).bind fun s1 => mgs ds s1
  | [], _ => none
theorem sgs_nil : SGs X g [] mgNil := ⟨fun pins s σ H vs us Q I r ⟨n, c, ms, R, Mr, ds, s', pr, x, e, q⟩ => (pgs_nil (X := X)).run pins s σ H vs us Q I r (by
  cases ds with
  | nil => cases e; exact ⟨x.1, q n R H σ (En.le.refl n) pr.2.1 pr.2.2⟩
  | cons d ds => cases e)⟩
theorem sgs_cons {mg : D → MS → Option MS} {mgs : List D → MS → Option MS} (h1 : SG X g e mg) (h2 : SGs X g es mgs)
    (hs : (assignEach (e :: es) X.env).map (·.2) = assign e X.env :: (assignEach es X.env).map (·.2) := by rfl) : SGs X g (e :: es) (mgCons mg mgs) :=
  ⟨fun pins s σ H vs us Q I r ⟨n, c, ms, R, Mr, ds, s', pr, x, e, q⟩ => (pgs_cons h1 h2 hs).run pins s σ H vs us Q I r (by
    cases ds with
    | nil => cases e
    | cons d ds =>
      obtain ⟨v, vs', r1, r2, rfl, er, x1, x2⟩ := x
      obtain ⟨rfl, rfl⟩ := Rs.zero_of_add er
      have e : (mg d ms).bind (fun s1 => mgs ds s1) = some s' := e
      cases e1 : mg d ms with
      | none => rw [e1] at e; cases e
      | some s1 =>
        rw [e1] at e
        refine ⟨v, vs', rfl, n, c, ms, R, Mr, d, s1, pr, x1, e1, fun n1 R1 H1 σ1 l1 rl1 o1 => ⟨n1, c, s1, R1, Mr, ds, s', ⟨pg l1 pr.1, rl1, o1⟩, x2.mono l1, e, fun n2 R2 H2 σ2 l2 rl2 o2 => q n2 R2 H2 σ2 (l1.trans l2) rl2 o2⟩⟩)⟩
def mgTup (mgs : List D → MS → Option MS) : D → MS → Option MS
  | .tup ds, s => mgs ds s
  | _, _ => none
theorem mgLen : ∀ {es : List Expr} {mgs : List D → MS → Option MS} {ds : List D} {s s' : MS}, mgs ds s = some s' → (∀ ds s s', mgs ds s = some s' → ds.length = es.length) → ds.length = es.length := fun e h => h _ _ _ e
theorem sg_tup {kk : Nat} {mgs : List D → MS → Option MS} {nn : Nat} (hc : X.calm = true) (hK : X.K = g.K) (h : SGs X g es mgs) (hl : ∀ ds s s', mgs ds s = some s' → ds.length = nn)
    (hn : (assignEach es X.env).length = nn := by rfl) (hst : (assignEach es X.env).findIdx? (·.1) = none := by rfl) : SG X g (.Tuple es kk pos) (mgTup mgs) :=
  ⟨fun pins s σ H v u Q I r ⟨n, c, ms, R, Mr, d, s', pr, x, e, q⟩ => (pg_tupK (K := g.K) hc h hn hst hK).run pins s σ H v u Q I r (by
    cases d <;> first | (cases e; done) | skip
    rename_i ds
    obtain ⟨a, vs, rfl, hq, hx⟩ := x.tup pr.2.2
    exact ⟨a, vs, rfl, by rw [show g.K = n.g.K by rw [pr.1.1]]; exact hq, by rw [hx.len]; exact hl _ _ _ e, n, c, ms, R, Mr, ds, s', pr, hx, e, q⟩)⟩
theorem mgNil_len {ds : List D} {s s' : MS} (h : mgNil ds s = some s') : ds.length = 0 := by cases ds <;> first | rfl | cases h
theorem mgCons_len {mg : D → MS → Option MS} {mgs : List D → MS → Option MS} {k : Nat} (hk : ∀ ds s s', mgs ds s = some s' → ds.length = k) : ∀ ds s s', mgCons mg mgs ds s = some s' → ds.length = k + 1 := by
  intro ds s s' h
  cases ds with
  | nil => cases h
  | cons d ds =>
    have h : (mg d s).bind (fun s1 => mgs ds s1) = some s' := h
    cases e1 : mg d s with
    | none => rw [e1] at h; cases h
    | some s1 =>
      rw [e1] at h
      rw [List.length_cons, hk ds s1 s' h]
def mAsg (mg : D → MS → Option MS) (m : M D) : M Fl := fun s => (m s).bind fun d s1 => match mg d s1 with
  | some s2 => .ok .nx s2
  | none => .bad
theorem ss_asg {tg : Expr} {mg : D → MS → Option MS} (he : SE X g W .C p e m) (hg : SG X g tg mg) (hs : swapsWithSole [tg] e pos.line X.env = pure false := by rfl) (hw : swappedStores [tg] e X.env = pure none := by rfl)
    (h1 : (assignEach [tg] X.env).map (·.2) = [assign tg X.env] := by rfl) : SS X g W (.Assign [tg] e pos) (mAsg mg m) :=
  PS.imp (ps_asg he hg hs hw h1) fun Dn σ H ⟨n, c, s, R, Mr, pr, q⟩ => by
    refine ⟨n, c, s, R, Mr, pr, ?_⟩
    unfold mAsg at q
    cases hk : m s with
    | bad => rw [hk] at q; exact q
    | er e s' => rw [hk] at q; exact fun n2 R2 H2 l2 r2 o2 => q n2 R2 H2 σ l2 r2 o2
    | ok d s1 =>
      rw [hk, Rz.bind_ok] at q
      intro n2 R2 H2 l2 e2 r2 v o2
      cases hm : mg d s1 with
      | none => rw [hm] at q; exact False.elim q
      | some s2 =>
        rw [hm] at q
        exact ⟨n2, c, s1, R2, Mr, d, s2, ⟨pg l2 pr.1, r2, o2.2⟩, o2.1, hm, fun n3 R3 H3 σ3 l3 r3 o3 => q n3 R3 H3 σ3 (l2.trans l3) r3 o3⟩
/-- name = value, whatever is owned of it -/
def mSet (i : Nat) (m : M D) : M Fl := fun s => (m s).bind fun d s1 => if i < s1.fr.length then .ok .nx (setFr s1 i d) else .bad
theorem set_core {i : Nat} (hp : okSlot g i) {Dn : Ends} {σ : L2.St} {H : Hp} (h : tS g W (mSet i m) Dn σ H) : tE g W .F p m σ H fun x H1 => gName i x σ H1 Dn.nx := by
    obtain ⟨n, c, s, R, Mr, pr, q⟩ := h
    refine ⟨n, c, s, R, Mr, pr, ?_⟩
    unfold mSet at q
    cases hk : m s with
    | bad => rw [hk] at q; exact q
    | er e s' => rw [hk] at q; exact fun n2 R2 H2 l2 r2 o2 => q n2 R2 H2 σ l2 r2 o2
    | ok d s1 =>
      rw [hk, Rz.bind_ok] at q
      intro n2 R2 H2 l2 e2 r2 v o2
      obtain ⟨r, x, o⟩ := o2
      split at q
      · rename_i hl
        obtain ⟨R', old, rl, er⟩ := r2.set x hl (by rw [pr.1.2]; exact hp.no)
        refine q n2 R' H2 _ l2 rl ?_
        rw [← Rs.add_assoc, er, Rs.add_assoc] at o
        exact o.drop
      · exact False.elim q
theorem ss_set {i : Nat} {x : Str} {pos' : Pos} (hN : X.N.Nodup) (hi : X.N[i]? = some x) (hx : Loc X.env.scope x) (hp : okSlot g i) (he : SE X g W .F p e m) (hs : swapsWith e (some (.Name x pos')) pos.line X.env = pure false := by rfl) (hf : X.fn x = true ∨ X.env.scope.names.lookup x = some .local := by first | exact .inl rfl | exact .inr rfl | assumption) :
    SS X g W (.Assign [.Name x pos'] e pos) (mSet i m) :=
  PS.imp (ps_set hN hi hx he hs hf) fun Dn σ H h => set_core hp h
/-- a, b = x, y -/
def mPar (i j : Nat) (ms : M (List D)) : M Fl := fun s => (ms s).bind fun ds s1 => match ds with
  | [d, e] => if i < s1.fr.length ∧ j < s1.fr.length then .ok .nx (setFr (setFr s1 i d) j e) else .bad
  | _ => .bad
theorem ss_par {i j : Nat} {x y : Str} {px py pt : Pos} {kt k2 pt2} (hc : X.calm = true) (hN : X.N.Nodup) (hi : X.N[i]? = some x) (hj : X.N[j]? = some y) (hij : i ≠ j) (hpi : okSlot g i) (hpj : okSlot g j)
    (hx : X.env.scope.names.lookup x = some .local) (hy : X.env.scope.names.lookup y = some .local) (ha : SA X g W p [a, b] ms)
    (hw : swappedStores [.Tuple [.Name x px, .Name y py] kt pt] (.Tuple [a, b] k2 pt2) X.env = pure (some [x, y]))
    (hs : swapsWithSole [.Tuple [.Name x px, .Name y py] kt pt] (.Tuple [a, b] k2 pt2) pos.line X.env = pure false := by rfl) :
    SS X g W (.Assign [.Tuple [.Name x px, .Name y py] kt pt] (.Tuple [a, b] k2 pt2) pos) (mPar i j ms) :=
  PS.imp (ps_par hc hN hi hj hij hx hy ha hw hs) fun Dn σ H ⟨n, c, s, R, Mr, pr, q⟩ => by
    refine ⟨n, c, s, R, Mr, pr, ?_⟩
    unfold mPar at q
    cases hk : ms s with
    | bad => rw [hk] at q; exact q
    | er e s' => rw [hk] at q; exact fun n2 R2 H2 l2 r2 o2 => q n2 R2 H2 σ l2 r2 o2
    | ok ds s1 =>
      rw [hk, Rz.bind_ok] at q
      intro n2 R2 H2 l2 e2 r2 vs xs o2
      cases ds with
      | nil => exact False.elim q
      | cons d ds =>
        cases ds with
        | nil => exact False.elim q
        | cons e ds =>
          cases ds with
          | cons _ _ => exact False.elim q
          | nil =>
            obtain ⟨v, w, rfl, x1, x2⟩ := encL_2 xs
            have q : PostS g W c n Mr Dn (if i < s1.fr.length ∧ j < s1.fr.length then .ok .nx (setFr (setFr s1 i d) j e) else .bad) := q
            split at q
            · rename_i hl
              refine ⟨v, w, rfl, ?_⟩
              obtain ⟨R', old, rl, er⟩ := r2.set x1 hl.1 (by rw [pr.1.2]; exact hpi.no)
              obtain ⟨R'', old', rl', er'⟩ := rl.set x2 (i := j) (by show j < (s1.fr.set i _).length; rw [List.length_set]; exact hl.2) (by rw [pr.1.2]; exact hpj.no)
              refine q n2 R'' H2 _ l2 rl' ?_
              rw [Rs.zero_add] at er er'
              rw [er, er', Rs.add_assoc, Rs.add_assoc] at o2
              exact o2.drop.drop
            · exact False.elim q
/-- x op= e of ints -/
def mAug (i : Nat) (f : Int → Int → Int) (m : M D) : M Fl := fun s => (mVar i s).bind fun d _ => (m s).bind fun e s1 => match dI f d e with
  | some z => if i < s1.fr.length then .ok .nx (setFr s1 i z) else .bad
  | none => .bad
theorem ss_aug {i : Nat} {x : Str} {op : Operator} {f : Int → Int → Int} {pos' : Pos} (hN : X.N.Nodup) (hi : X.N[i]? = some x) (hx : Loc X.env.scope x) (hp : okSlot g i) (he : SE X g W .E p e m) (ho : PIp X op (ipI f)) (hf : X.fn x = true ∨ X.env.scope.names.lookup x = some .local := by first | exact .inl rfl | exact .inr rfl | assumption) :
    SS X g W (.AugAssign (.Name x pos') op e pos) (mAug i f m) :=
  PS.imp (ps_aug hN hi hx he ho hf) fun Dn σ H ⟨n, c, s, R, Mr, pr, q⟩ => by
    unfold mAug mVar at q
    cases hv : s.fr[i]? with
    | none => rw [hv] at q; exact False.elim q
    | some od =>
      cases od with
      | none => rw [hv] at q; exact False.elim q
      | some d =>
        rw [hv] at q
        have q : PostS g W c n Mr Dn ((m s).bind fun e s1 => match dI f d e with
          | some z => if i < s1.fr.length then .ok .nx (setFr s1 i z) else .bad
          | none => .bad) := q
        obtain ⟨rf, rw', er, h1, h2, h3, h4⟩ := id pr.2.1
        obtain ⟨v, ri, e1, e2, e3⟩ := h1.get hv
        refine ⟨v, e1, n, c, s, R, Mr, pr, ?_⟩
        cases hk : m s with
        | bad => rw [hk] at q; exact q
        | er e s' => rw [hk] at q; exact fun n2 R2 H2 l2 r2 o2 => q n2 R2 H2 σ l2 r2 o2
        | ok d' s1 =>
          rw [hk, Rz.bind_ok] at q
          intro n2 R2 H2 l2 ep r2 w o2
          obtain ⟨t, r, x, u, o⟩ := o2
          clear hv
          cases d <;> first | (exact False.elim q; done) | skip
          rename_i x0 _
          cases d' <;> first | (exact False.elim q; done) | skip
          rename_i y0
          have q : PostS g W c n Mr Dn (if i < s1.fr.length then .ok .nx (setFr s1 i (.int (f x0 y0))) else .bad) := q
          obtain ⟨rfl, _⟩ := e2
          obtain ⟨rfl, _⟩ := x
          refine ⟨x0, y0, rfl, rfl, ?_⟩
          split at q
          · rename_i hl
            obtain ⟨R', old, rl, er⟩ := r2.set (d := .int (f x0 y0)) (r := 0) ⟨rfl, rfl⟩ hl (by rw [pr.1.2]; exact hp.no)
            refine q n2 R' H2 _ l2 rl ?_
            rw [Rs.zero_add] at er
            have o := o.drop
            rw [er, Rs.add_assoc] at o
            exact o.drop
          · exact False.elim q
/-! ### raise -/
def mEr {α : Type} (c : Str) : M α := fun s => .er ⟨c⟩ s
theorem ss_raise {c : Str} {C : Addr} (h : PS X st (fun _ σ H => W (.ref C) none σ H)) (hC : g.ca c = C) : SS X g W st (mEr c) :=
  PS.imp h fun Dn σ H ⟨n, ct, s, R, Mr, pr, q⟩ => hC ▸ q n R H σ (En.le.refl n) pr.2.1 pr.2.2
/-! ### while -/
def mWhile (mc : M Bool) (k : M Fl) : Nat → M Fl
  | 0, _ => .bad
  | t + 1, s => (mc s).bind fun b s1 => if b = true then (match k s1 with
      | .ok .nx s2 => mWhile mc k t s2
      | .ok .ct s2 => mWhile mc k t s2
      | .ok .bk s2 => .ok .nx s2
      | r => r) else .ok .nx s1
theorem ss_while {c : Expr} {body : List Stmt} {mc : M Bool} (t : Nat) (hp : PassesOwn (model X.prog X.w) X.A X.env X.xe) (hc : ST X g W p c mc) (hb : SSs X g W body k) : SS X g W (.While c body [] pos) (mWhile mc k t) :=
  PS.imp (ps_while hp hc hb) fun Dn σ H ⟨n, c, s, R, Mr, pr, q⟩ => by
    refine ⟨fun t σ H => ∃ n2 s2 R2, n.le n2 ∧ Pre g n2 c s2 σ R2 Mr H ∧ PostS g W c n Mr Dn (mWhile mc k t s2), ⟨t, n, s, R, En.le.refl n, pr, q⟩, ?_⟩
    rintro t σ H ⟨n2, s2, R2, l2, pr2, q⟩
    refine ⟨n2, c, s2, R2, Mr, pr2, ?_⟩
    cases t with
    | zero => exact False.elim q
    | succ t =>
      unfold mWhile at q
      cases hm : mc s2 with
      | bad => rw [hm] at q; exact q
      | er e s' => rw [hm] at q; exact fun n3 R3 H3 l3 r3 o3 => q n3 R3 H3 σ (l2.trans l3) r3 o3
      | ok b s3 =>
        rw [hm, Rz.bind_ok] at q
        intro n3 R3 H3 l3 e3 r3 o3
        cases b with
        | false => exact q n3 R3 H3 σ (l2.trans l3) r3 o3
        | true =>
          rw [if_pos rfl] at q ⊢
          refine ⟨fun σ' H' => ∃ n4 s4 R4, n.le n4 ∧ Pre g n4 c s4 σ' R4 Mr H' ∧ PostS g W c n Mr Dn (mWhile mc k t s4), fun σ' H' h => ⟨t, Nat.lt_succ_self t, h⟩, n3, c, s3, R3, Mr, ⟨pg l3 pr2.1, r3, o3⟩, ?_⟩
          have l23 := l2.trans l3
          cases hk : k s3 with
          | bad => rw [hk] at q; exact q
          | er e s' => rw [hk] at q; exact PostS.mono (n := n) (Mr := Mr) (Dn := Dn) (r := .er e s') q l23 (Sub.refl _)
          | ok f s4 =>
            rw [hk] at q
            cases f with
            | nx => exact fun n5 R5 H5 σ5 l5 r5 o5 => ⟨n5, s4, R5, l23.trans l5, ⟨pg l5 (pg l3 pr2.1), r5, o5⟩, q⟩
            | ct => exact fun n5 R5 H5 σ5 l5 r5 o5 => ⟨n5, s4, R5, l23.trans l5, ⟨pg l5 (pg l3 pr2.1), r5, o5⟩, q⟩
            | bk => exact fun n5 R5 H5 σ5 l5 r5 o5 => q n5 R5 H5 σ5 (l23.trans l5) r5 o5
            | rt d => exact fun n5 R5 H5 σ5 v r l5 r5 x5 o5 => q n5 R5 H5 σ5 v r (l23.trans l5) r5 x5 o5
end
end Mi

namespace Mi
open PySem PySem.Spec PyProof.Rows Hk
open L2 hiding Takes XE CX takes_of passes_call MkP PMk ps_raise mk_of ps_try_as passAt pmk_own
open L2N (Takes XE CX takes_of passes_call MkP PMk ps_raise mk_of ps_try_as passAt pmk_own)
/-! ## functions -/
inductive Rf where
  | ok (d : D) (os : List D) (wd : Option (List Ob)) | er (e : Exn) (os : List D) (wd : Option (List Ob)) | bad
abbrev Fm := Option (List Ob) → List D → Rf
def pick (vs : List V) (io : List Nat) : List V := io.map fun i => (vs[i]?).getD .non
def PostF (gd : Gd) (io : List Nat) (n : En) (wd : Option (List Ob)) (Mr : Rs) (vs : List V) (Q : VK) (E : XK) : Rf → Prop
  | .bad => False
  | .ok d os wd' => ∀ n' v r ro rw' H', n.le n' → (wd = none → wd' = none ∧ n'.wa = n.wa) → EncL n' os (pick vs io) ro → EncWo n' wd' rw' → Enc n' d v r → Ok n'.B (r + (ro + rw' + Mr)) H' → Q v H'
  | .er e os wd' => ∀ n' ro rw' H', n.le n' → (wd = none → wd' = none ∧ n'.wa = n.wa) → EncL n' os (pick vs io) ro → EncWo n' wd' rw' → Ok n'.B (ro + rw' + Mr) H' → E (.ref (gd.ca e.c)) none H'
def spF (gd : Gd) (io : List Nat) (F : Fm) : Sp := fun vs H Q E => ∃ n wd ds rd rw' Mr, n.g = gd ∧ EncL n ds vs rd ∧ EncWo n wd rw' ∧ Ok n.B (rd + rw' + Mr) H ∧ PostF gd io n wd Mr vs Q E (F wd ds)
def outs : List (Option D) → List Nat → Option (List D)
  | _, [] => some []
  | fr, i :: io => match fr[i]? with
    | some (some d) => (outs (fr.set i none) io).map fun os => d :: os
    | _ => none
def fnM (nl np : Nat) (io : List Nat) (body : M Fl) : Fm := fun wd ds => if ds.length = np then (match body ⟨ds.map some ++ List.replicate (nl - np) none, wd⟩ with
  | .ok (.rt d) s => (match outs s.fr io with
    | some os => .ok d os s.wd
    | none => .bad)
  | .ok .nx s => (match outs s.fr io with
    | some os => .ok .non os s.wd
    | none => .bad)
  | .er e s => (match outs s.fr io with
    | some os => .er e os s.wd
    | none => .bad)
  | _ => .bad) else .bad
theorem encFr_none {n : En} : ∀ k, EncFr n (List.replicate k none) (List.replicate k none) 0
  | 0 => ⟨rfl, rfl⟩
  | k + 1 => ⟨none, _, rfl, encFr_none k⟩
theorem encFr_init {n : En} {k : Nat} : ∀ {ds : List D} {vs : List V} {r : Rs}, EncL n ds vs r → EncFr n (ds.map some ++ List.replicate k none) (vs.map some ++ List.replicate k none) r
  | [], _, _, h => by
    obtain ⟨rfl, rfl⟩ := h
    exact encFr_none k
  | d :: ds, _, _, h => by
    obtain ⟨v, vs', r1, r2, rfl, rfl, h1, h2⟩ := h
    exact ⟨v, _, r1, r2, rfl, rfl, h1, encFr_init h2⟩
theorem outs_ok {n : En} {w : Nat → V} : ∀ {io : List Nat} {fr : List (Option D)} {σ : L2.St} {r : Rs} {os : List D}, EncFr n fr σ r → (∀ i ∈ io, σ[i]? = some (some (w i))) → outs fr io = some os →
    ∃ ro rest, r = ro + rest ∧ EncL n os (io.map w) ro
  | [], _, _, r, _, h, _, e => by
    cases e
    exact ⟨0, r, (Rs.zero_add r).symm, rfl, rfl⟩
  | i :: io, fr, σ, r, os, h, k, e => by
    unfold outs at e
    cases hf : fr[i]? with
    | none => rw [hf] at e; cases e
    | some od =>
      cases od with
      | none => rw [hf] at e; cases e
      | some d =>
        rw [hf] at e
        have e : (outs (fr.set i none) io).map (fun os => d :: os) = some os := e
        cases ho : outs (fr.set i none) io with
        | none => rw [ho] at e; cases e
        | some os' =>
          rw [ho] at e
          cases e
          obtain ⟨v, ri, rest, e1, e2, x, h'⟩ := h.out i hf
          obtain ⟨ro, rest', e3, x'⟩ := outs_ok h' (fun j hj => k j (List.mem_cons_of_mem _ hj)) ho
          have ev := k i List.mem_cons_self
          rw [e1] at ev
          have ev := Option.some.inj (Option.some.inj ev)
          subst ev
          exact ⟨ri + ro, rest', by rw [e2, e3, Rs.add_assoc], _, _, ri, ro, rfl, rfl, x, x'⟩
theorem pnOk_init (w : Nat → V) : ∀ io : List Nat, PnOk (io.map fun i => (i, none)) (io.map fun i => (i, w i))
  | [] => rfl
  | i :: io => ⟨w i, _, rfl, (fun _ h => by cases h), pnOk_init w io⟩
def pwI (n : En) : Option (List Ob) → Option (List Addr)
  | none => some n.wa
  | some _ => none
def ctI (io : List Nat) (vs : List V) (n : En) (wd : Option (List Ob)) : Ct := ⟨io.map fun i => (i, none), io.map fun i => (i, (vs[i]?).getD .non), pwI n wd⟩
theorem fn_start {gd : Gd} {io : List Nat} {np : Nat} {N : List Str} {body : M Fl} {vs : List V} {H : Hp} {Q : VK} {E : XK} (h : spF gd io (fnM N.length np io body) vs H Q E) (hio : ∀ i ∈ io, i < np) :
    tS ⟨gd, io.map fun i => (i, none)⟩ (fun cls d _ H' => E cls d H') body { nx := fun _ H' => Q .non H', rt := Q } (L2.start N vs) H := by
  obtain ⟨n, wd, ds, rd, rw', Mr, hg, hd, hw, o, q⟩ := h
  unfold fnM at q
  by_cases hl : ds.length = np
  · rw [if_pos hl] at q
    have hv : vs.length = np := hd.len.trans hl
    have hpin : ∀ i ∈ io, (L2.start N vs)[i]? = some (some ((vs[i]?).getD .non)) := fun i hi => by
      have hlt : i < vs.length := by rw [hv]; exact hio i hi
      unfold L2.start
      rw [List.getElem?_append_left (by rw [List.length_map]; exact hlt), List.getElem?_map, List.getElem?_eq_getElem hlt]
      rfl
    have rl : RelS n (ctI io vs n wd) ⟨ds.map some ++ List.replicate (N.length - np) none, wd⟩ (L2.start N vs) (rd + rw') := by
      refine ⟨rd, rw', rfl, ?_, hw, ⟨fun q hq => ?_, pnOk_init _ io⟩, ?_⟩
      · unfold L2.start
        rw [hv]
        exact encFr_init hd
      · obtain ⟨i, hi, rfl⟩ := List.mem_map.mp hq
        exact hpin i hi
      · cases wd with
        | none => exact ⟨rfl, rfl⟩
        | some W => trivial
    refine ⟨n, _, _, rd + rw', Mr, ⟨⟨hg, rfl⟩, rl, o⟩, ?_⟩
    -- what a later state gives
    have fin : ∀ {s' : MS} {os : List D} {n' : En} {R' : Rs} {σ' : L2.St}, outs s'.fr io = some os → RelS n' (ctI io vs n wd) s' σ' R' →
        ∃ ro rw2 rest, R' = ro + rw2 + rest ∧ EncL n' os (pick vs io) ro ∧ EncWo n' s'.wd rw2 ∧ (wd = none → s'.wd = none ∧ n'.wa = n.wa) := fun {s' os n' R' σ'} ho rl' => by
      obtain ⟨rf, rw2, e, h1, h2, h3, h4⟩ := rl'
      obtain ⟨ro, rest, e2, x⟩ := outs_ok (w := fun i => (vs[i]?).getD .non) h1 (fun i hi => h3.1 (i, (vs[i]?).getD .non) (List.mem_map.mpr ⟨i, hi, rfl⟩)) ho
      refine ⟨ro, rw2, rest, by rw [e, e2]; ac_rfl, x, h2, fun z => ?_⟩
      subst z
      exact h4
    cases hb : body ⟨ds.map some ++ List.replicate (N.length - np) none, wd⟩ with
    | bad => rw [hb] at q; exact False.elim q
    | er e s' =>
      rw [hb] at q
      cases ho : outs s'.fr io with
      | none =>
        have q : PostF gd io n wd Mr vs Q E (match outs s'.fr io with | some os => .er e os s'.wd | none => .bad) := q
        rw [ho] at q
        exact False.elim q
      | some os =>
        have q : PostF gd io n wd Mr vs Q E (match outs s'.fr io with | some os => .er e os s'.wd | none => .bad) := q
        rw [ho] at q
        intro n' R' H' σ' l rl' o'
        obtain ⟨ro, rw2, rest, e1, x, y, z⟩ := fin ho rl'
        refine q n' ro rw2 H' l z x y ?_
        rw [e1] at o'
        exact (o'.cast (show _ = rest + (ro + rw2 + Mr) by ac_rfl)).drop
    | ok f s' =>
      rw [hb] at q
      cases f with
      | bk => exact False.elim q
      | ct => exact False.elim q
      | nx =>
        have q : PostF gd io n wd Mr vs Q E (match outs s'.fr io with | some os => .ok .non os s'.wd | none => .bad) := q
        cases ho : outs s'.fr io with
        | none => rw [ho] at q; exact False.elim q
        | some os =>
          rw [ho] at q
          intro n' R' H' σ' l rl' o'
          obtain ⟨ro, rw2, rest, e1, x, y, z⟩ := fin ho rl'
          refine q n' .non 0 ro rw2 H' l z x y ⟨rfl, rfl⟩ ?_
          rw [e1] at o'
          rw [Rs.zero_add]
          exact (o'.cast (show _ = rest + (ro + rw2 + Mr) by ac_rfl)).drop
      | rt d =>
        have q : PostF gd io n wd Mr vs Q E (match outs s'.fr io with | some os => .ok d os s'.wd | none => .bad) := q
        cases ho : outs s'.fr io with
        | none => rw [ho] at q; exact False.elim q
        | some os =>
          rw [ho] at q
          intro n' R' H' σ' v r l rl' xd o'
          obtain ⟨ro, rw2, rest, e1, x, y, z⟩ := fin ho rl'
          refine q n' v r ro rw2 H' l z x y xd ?_
          rw [e1] at o'
          exact (o'.cast (show _ = rest + (r + (ro + rw2 + Mr)) by ac_rfl)).drop
  · rw [if_neg hl] at q
    exact False.elim q
theorem fn_len {gd : Gd} {io : List Nat} {nl np : Nat} {body : M Fl} {vs : List V} {H : Hp} {Q : VK} {E : XK} (h : spF gd io (fnM nl np io body) vs H Q E) : vs.length = np := by
  obtain ⟨n, wd, ds, rd, rw', Mr, hg, hd, hw, o, q⟩ := h
  unfold fnM at q
  by_cases hl : ds.length = np
  · exact hd.len.trans hl
  · rw [if_neg hl] at q
    exact False.elim q

theorem RelS.take' {n : En} {c : Ct} {s : MS} {σ : L2.St} {R : Rs} {i : Nat} {d : D} (h : RelS n c s σ R) (e : s.fr[i]? = some (some d)) : ∃ v ri rest, σ[i]? = some (some v) ∧ R = ri + rest ∧ Enc n d v ri := by
  obtain ⟨rf, rw', er, h1, h2, h3, h4⟩ := h
  obtain ⟨v, ri, rest, e1, e2, x, k⟩ := h1.take i e
  exact ⟨v, ri, rest + rw', e1, by rw [er, e2]; ac_rfl, x⟩
/-! ## calls -/
section
variable {X : Cx} {g : Gj} {W : WX} {p pa pb : Bool} {a b e o : Expr} {es : List Expr} {ma mb m : M D} {ms : M (List D)} {pos q apos : Pos} {k : Nat} {ps : List Str} {F : Fm} {x : Str} {t : TA}
/-- a call that sees no objects and leaves its arguments -/
def mCallP (F : Fm) (ms : M (List D)) : M D := fun s => (ms s).bind fun ds s1 => match F none ds with
  | .ok d [] none => .ok d s1
  | .er e [] none => .er e s1
  | _ => .bad
theorem callP_core {σ : L2.St} {H : Hp} {Q : VK} (h : tE g W .F p (mCallP F ms) σ H Q) : tA g W p ms σ H fun vs H1 => spF g.toGd [] F vs H1 Q (WE W σ) := by
  obtain ⟨n, pn, s, R, Mr, pr, q⟩ := h
  refine ⟨n, pn, s, R, Mr, pr, Post.mono q fun ds s1 n1 R1 H1 l1 e1 rl1 q vs x o => ?_⟩
  refine ⟨n1, none, ds, 0, 0, R1 + Mr, (pg l1 pr.1).1, x, rfl, by rw [Rs.zero_add, Rs.zero_add]; exact o, ?_⟩
  cases hF : F none ds with
  | bad => rw [hF] at q; exact False.elim q
  | er e os wd =>
    rw [hF] at q
    cases os with
    | cons _ _ => exact False.elim q
    | nil =>
      cases wd with
      | some _ => exact False.elim q
      | none =>
        intro n2 ro rw' H2 l2 z x2 y2 o2
        obtain ⟨_, rfl⟩ := x2
        obtain rfl : rw' = 0 := y2
        rw [Rs.zero_add, Rs.zero_add] at o2
        exact q n2 R1 H2 (l1.trans l2) (rl1.mono l2 (z rfl).2) o2
  | ok d os wd =>
    rw [hF] at q
    cases os with
    | cons _ _ => exact False.elim q
    | nil =>
      cases wd with
      | some _ => exact False.elim q
      | none =>
        intro n2 v r ro rw' H2 l2 z x2 y2 xd o2
        obtain ⟨_, rfl⟩ := x2
        obtain rfl : rw' = 0 := y2
        rw [Rs.zero_add, Rs.zero_add] at o2
        exact q n2 R1 H2 (l1.trans l2) (fun zz => ⟨(z rfl).2.trans (e1 zz).1, (e1 zz).2⟩) (rl1.mono l2 (z rfl).2) v ⟨r, xd, o2⟩
theorem sf_callP (G : GF X.prog X.w X.K X.mg X.base x k ps (spF g.toGd [] F)) (hr : Room k X.A) (tk : Takes X W) (ha : SA X g W p (e :: es) ms) (hg : Gl X x := by rfl) (hdb : (x == ("__debug__" : Str)) = false := by decide)
    (he : starEach (e :: es) X.env = (false, eval e X.env) :: starEach es X.env := by rfl) (hpl : (backTo pos (starEach es X.env)).any (·.1) = false := by rfl) : SE X g W .F p (.Call (.Name x q) (e :: es) [] pos) (mCallP F ms) :=
  PE.imp (pe_callG G hr tk ha hg hdb he hpl) fun σ H Q h => callP_core h
theorem sf_callP0 (G : GF X.prog X.w X.K X.mg X.base x k ps (spF g.toGd [] F)) (hr : Room k X.A) (tk : Takes X W) (hg : Gl X x := by rfl) (hdb : (x == ("__debug__" : Str)) = false := by decide) : SE X g W .F true (.Call (.Name x q) [] [] pos) (mCallP F mNil) :=
  PE.imp (pe_callG0 G hr tk hg hdb) fun σ H Q h => by
    have := callP_core h
    obtain ⟨n, pn, s, R, Mr, pr, q⟩ := this
    exact q n R H (En.le.refl n) (fun _ => ⟨rfl, rfl, rfl⟩) pr.2.1 [] ⟨rfl, rfl⟩ pr.2.2
/-! mixed arguments -/
inductive Ag where
  | c (m : M D) | io (j : Nat)
def mAgs : List Ag → M (List (Sum D Nat))
  | [], s => .ok [] s
  | .c m :: as, s => (m s).bind fun d s1 => (mAgs as s1).bind fun xs s2 => .ok (.inl d :: xs) s2
  | .io j :: as, s => (mAgs as s).bind fun xs s2 => .ok (.inr j :: xs) s2
def EncM (n : En) (σ : L2.St) : List (Sum D Nat) → List V → Prop
  | [], vs => vs = []
  | .inl d :: xs, vs => ∃ v vs', vs = v :: vs' ∧ Enc n d v 0 ∧ EncM n σ xs vs'
  | .inr j :: xs, vs => ∃ v vs', vs = v :: vs' ∧ σ[j]? = some (some v) ∧ EncM n σ xs vs'
theorem EncM.mono {n n' : En} {σ : L2.St} (l : n.le n') : ∀ {xs : List (Sum D Nat)} {vs : List V}, EncM n σ xs vs → EncM n' σ xs vs
  | [], _, h => h
  | .inl d :: xs, _, h => by
    obtain ⟨v, vs', rfl, h1, h2⟩ := h
    exact ⟨v, vs', rfl, h1.mono l, EncM.mono l h2⟩
  | .inr j :: xs, _, h => by
    obtain ⟨v, vs', rfl, h1, h2⟩ := h
    exact ⟨v, vs', rfl, h1, EncM.mono l h2⟩
def finM (σ : L2.St) (Mr : Rs) (Q : List V → Hp → Prop) : List (Sum D Nat) → En → Rs → Hp → Prop := fun xs n R H => ∀ vs, EncM n σ xs vs → Ok n.B (R + Mr) H → Q vs H
def tM (g : Gj) (W : WX) (as : List Ag) : TA := fun σ H Q => ∃ n pn s R Mr, Pre g n pn s σ R Mr H ∧ Post g W false pn n s σ R Mr (finM σ Mr Q) (mAgs as s)
def iosOf : List Ag → List Nat
  | [] => []
  | .c _ :: as => iosOf as
  | .io j :: as => j :: iosOf as
/-- a slot whose tree stands there (its value is read) -/
def SM (X : Cx) (g : Gj) (W : WX) (es : List Expr) (as : List Ag) : Prop := ∃ t : TA, PA X es t ∧ ∀ σ H Q, (∀ j ∈ iosOf as, ∃ v, σ[j]? = some (some v)) → tM g W as σ H Q → t σ H Q
theorem sm_nil : SM X g W [] [] := ⟨_, pa_nil, fun σ H Q _ ⟨n, pn, s, R, Mr, pr, q⟩ => q n R H (En.le.refl n) (fun z => absurd z Bool.false_ne_true) pr.2.1 [] rfl pr.2.2⟩
theorem sm_c {as : List Ag} (ha : SE X g W .C pa e m) (hb : SM X g W es as) (hs : starEach (e :: es) X.env = (false, eval e X.env) :: starEach es X.env := by rfl) : SM X g W (e :: es) (.c m :: as) := by
  obtain ⟨t, pa', k⟩ := hb
  refine ⟨_, pa_cons ha pa' hs, fun σ H Q hj ⟨n, pn, s, R, Mr, pr, q⟩ => ⟨n, pn, s, R, Mr, pr, ?_⟩⟩
  unfold mAgs at q
  cases hm : m s with
  | bad => rw [hm] at q; exact q
  | er e s' => rw [hm] at q; exact q
  | ok d s1 =>
    rw [hm, Rz.bind_ok] at q
    intro n1 R1 H1 l1 e1 rl1 v o1
    refine k σ H1 _ hj ⟨n1, pn, s1, R1, Mr, ⟨pg l1 pr.1, rl1, o1.2⟩, ?_⟩
    cases hk : mAgs as s1 with
    | bad => rw [hk] at q; exact q
    | er e s' => rw [hk] at q; exact fun n2 R2 H2 l2 r2 o2 => q n2 R2 H2 (l1.trans l2) r2 o2
    | ok xs s2 =>
      rw [hk, Rz.bind_ok] at q
      intro n2 R2 H2 l2 _ rl2 vs x2 o2
      exact q n2 R2 H2 (l1.trans l2) (fun z => absurd z Bool.false_ne_true) rl2 (v :: vs) ⟨v, vs, rfl, o1.1.mono l2, x2⟩ o2
theorem sm_io {as : List Ag} {i : Nat} (hv : PE X e (tVar i)) (hb : SM X g W es as)
    (hs : starEach (e :: es) X.env = (false, eval e X.env) :: starEach es X.env := by rfl) : SM X g W (e :: es) (.io i :: as) := by
  obtain ⟨t, pa', k⟩ := hb
  refine ⟨_, pa_cons hv pa' hs, fun σ H Q hj ⟨n, pn, s, R, Mr, pr, q⟩ => ?_⟩
  obtain ⟨v, ev⟩ := hj i List.mem_cons_self
  refine ⟨v, ev, k σ H _ (fun j h => hj j (List.mem_cons_of_mem _ h)) ⟨n, pn, s, R, Mr, pr, ?_⟩⟩
  unfold mAgs at q
  cases hk : mAgs as s with
  | bad => rw [hk] at q; exact q
  | er e s' => rw [hk] at q; exact q
  | ok xs s2 =>
    rw [hk, Rz.bind_ok] at q
    intro n2 R2 H2 l2 _ rl2 vs x2 o2
    exact q n2 R2 H2 l2 (fun z => absurd z Bool.false_ne_true) rl2 (v :: vs) ⟨v, vs, rfl, ev, x2⟩ o2
/-- the places of the slots -/
def posM : Nat → List (Sum D Nat) → List Nat
  | _, [] => []
  | k, .inl _ :: xs => posM (k + 1) xs
  | k, .inr _ :: xs => k :: posM (k + 1) xs
def posA : Nat → List Ag → List Nat
  | _, [] => []
  | k, .c _ :: xs => posA (k + 1) xs
  | k, .io _ :: xs => k :: posA (k + 1) xs
theorem mAgs_pos : ∀ {as : List Ag} {s s' : MS} {xs : List (Sum D Nat)} (k : Nat), mAgs as s = .ok xs s' → posM k xs = posA k as
  | [], s, s', xs, k, h => by cases h; rfl
  | .c m :: as, s, s', xs, k, h => by
    unfold mAgs at h
    cases hm : m s with
    | bad => rw [hm] at h; cases h
    | er e s1 => rw [hm] at h; cases h
    | ok d s1 =>
      rw [hm, Rz.bind_ok] at h
      cases hk : mAgs as s1 with
      | bad => rw [hk] at h; cases h
      | er e s1 => rw [hk] at h; cases h
      | ok ys s2 =>
        rw [hk] at h
        cases h
        exact mAgs_pos (k + 1) hk
  | .io j :: as, s, s', xs, k, h => by
    unfold mAgs at h
    cases hk : mAgs as s with
    | bad => rw [hk] at h; cases h
    | er e s1 => rw [hk] at h; cases h
    | ok ys s2 =>
      rw [hk] at h
      cases h
      show k :: posM (k + 1) ys = k :: posA (k + 1) as
      rw [mAgs_pos (k + 1) hk]
def takeA : List (Option D) → List (Sum D Nat) → Option (List D × List (Option D))
  | fr, [] => some ([], fr)
  | fr, .inl d :: xs => (takeA fr xs).map fun y => (d :: y.1, y.2)
  | fr, .inr j :: xs => match fr[j]? with
    | some (some d) => (takeA (fr.set j none) xs).map fun y => (d :: y.1, y.2)
    | _ => none
def putA : List (Option D) → List (Sum D Nat) → List D → Option (List (Option D))
  | fr, [], [] => some fr
  | fr, .inl _ :: xs, os => putA fr xs os
  | fr, .inr j :: xs, o :: os => match fr[j]? with
    | some none => putA (fr.set j (some o)) xs os
    | _ => none
  | _, _, _ => none
theorem takeA_ok {n : En} {σ : L2.St} : ∀ {xs : List (Sum D Nat)} {fr fr' : List (Option D)} {ds : List D} {vs : List V} {r : Rs}, EncFr n fr σ r → EncM n σ xs vs → takeA fr xs = some (ds, fr') → ∃ rd rest, r = rd + rest ∧ EncL n ds vs rd ∧ EncFr n fr' σ rest
  | [], fr, fr', ds, vs, r, h, hm, e => by
    cases e
    exact ⟨0, r, (Rs.zero_add r).symm, ⟨hm, rfl⟩, h⟩
  | .inl d :: xs, fr, fr', ds, vs, r, h, hm, e => by
    obtain ⟨v, vs', rfl, h1, h2⟩ := hm
    have e : (takeA fr xs).map (fun y => (d :: y.1, y.2)) = some (ds, fr') := e
    cases et : takeA fr xs with
    | none => rw [et] at e; cases e
    | some y =>
      rw [et] at e
      cases e
      obtain ⟨rd, rest, e1, x1, x2⟩ := takeA_ok h h2 et
      exact ⟨rd, rest, e1, ⟨v, vs', 0, rd, rfl, (Rs.zero_add rd).symm, h1, x1⟩, x2⟩
  | .inr j :: xs, fr, fr', ds, vs, r, h, hm, e => by
    obtain ⟨v, vs', rfl, h1, h2⟩ := hm
    unfold takeA at e
    cases hf : fr[j]? with
    | none => rw [hf] at e; cases e
    | some od =>
      cases od with
      | none => rw [hf] at e; cases e
      | some d =>
        rw [hf] at e
        have e : (takeA (fr.set j none) xs).map (fun y => (d :: y.1, y.2)) = some (ds, fr') := e
        cases et : takeA (fr.set j none) xs with
        | none => rw [et] at e; cases e
        | some y =>
          rw [et] at e
          cases e
          obtain ⟨w, ri, rest0, e1, e2, x, h'⟩ := h.out j hf
          rw [h1] at e1
          cases e1
          obtain ⟨rd, rest, e3, x1, x2⟩ := takeA_ok h' h2 et
          exact ⟨ri + rd, rest, by rw [e2, e3, Rs.add_assoc], ⟨v, vs', ri, rd, rfl, rfl, x, x1⟩, x2⟩
theorem pick_cons {v : V} {vs : List V} : ∀ {io : List Nat}, pick (v :: vs) (io.map (· + 1)) = pick vs io
  | [] => rfl
  | i :: io => by
    show (((v :: vs)[i + 1]?).getD .non) :: pick (v :: vs) (io.map (· + 1)) = _
    rw [pick_cons]
    rfl
theorem posM_succ : ∀ {xs : List (Sum D Nat)} (k : Nat), posM (k + 1) xs = (posM k xs).map (· + 1)
  | [], _ => rfl
  | .inl _ :: xs, k => posM_succ (xs := xs) (k + 1)
  | .inr _ :: xs, k => by
    show (k + 1) :: posM (k + 1 + 1) xs = (k + 1) :: (posM (k + 1) xs).map (· + 1)
    rw [posM_succ (xs := xs) (k + 1)]
theorem putA_ok {n : En} {σ : L2.St} : ∀ {xs : List (Sum D Nat)} {fr fr' : List (Option D)} {os : List D} {vs : List V} {ro r : Rs} {n0 : En}, EncFr n fr σ r → EncM n0 σ xs vs → EncL n os (pick vs (posM 0 xs)) ro → putA fr xs os = some fr' → EncFr n fr' σ (ro + r)
  | [], fr, fr', os, vs, ro, r, n0, h, hm, hx, e => by
    cases os with
    | nil =>
      cases e
      obtain ⟨_, rfl⟩ := hx
      rw [Rs.zero_add]
      exact h
    | cons _ _ => cases e
  | .inl d :: xs, fr, fr', os, vs, ro, r, n0, h, hm, hx, e => by
    obtain ⟨v, vs', rfl, h1, h2⟩ := hm
    have hx : EncL n os (pick (v :: vs') (posM 1 xs)) ro := hx
    rw [posM_succ, pick_cons] at hx
    exact putA_ok h h2 hx e
  | .inr j :: xs, fr, fr', os, vs, ro, r, n0, h, hm, hx, e => by
    obtain ⟨v, vs', rfl, h1, h2⟩ := hm
    cases os with
    | nil => cases e
    | cons o os =>
      obtain ⟨w, ws, r1, r2, ew, rfl, x1, x2⟩ := hx
      have ew : v :: pick (v :: vs') (posM 1 xs) = w :: ws := ew
      cases ew
      rw [posM_succ, pick_cons] at x2
      unfold putA at e
      cases hf : fr[j]? with
      | none => rw [hf] at e; cases e
      | some od =>
        cases od with
        | some _ => rw [hf] at e; cases e
        | none =>
          rw [hf] at e
          have := putA_ok (h.into j hf h1 x1) h2 x2 e
          rw [show r1 + r2 + r = r2 + (r1 + r) by ac_rfl]
          exact this
/-- a call that sees the objects -/
def mCallE (F : Fm) (as : List Ag) : M D := fun s => (mAgs as s).bind fun xs s1 => match takeA s1.fr xs with
  | none => .bad
  | some y => (match F s1.wd y.1 with
    | .ok d os wd => (match putA y.2 xs os with
      | some fr => .ok d ⟨fr, wd⟩
      | none => .bad)
    | .er e os wd => (match putA y.2 xs os with
      | some fr => .er e ⟨fr, wd⟩
      | none => .bad)
    | .bad => .bad)
/-- the slots that are handed over have a value -/
def hasIo (as : List Ag) (s : MS) : Bool := (iosOf as).all fun j => match s.fr[j]? with
  | some (some _) => true
  | _ => false
theorem callE_core {io : List Nat} {as : List Ag} {t : TA} (hio : posA 0 as = io) (ht : ∀ σ H Q, (∀ j ∈ iosOf as, ∃ v, σ[j]? = some (some v)) → tM g W as σ H Q → t σ H Q) {σ : L2.St} {H : Hp} {Q : VK}
    (h : tE g W .F false (fun s => if hasIo as s = true then mCallE F as s else .bad) σ H Q) : t σ H fun vs H1 => spF g.toGd io F vs H1 Q (WE W σ) := by
  obtain ⟨n, c, s, R, Mr, pr, q⟩ := h
  dsimp only at q
  cases hh : hasIo as s with
  | false => rw [hh] at q; exact False.elim q
  | true =>
    rw [hh, if_pos rfl] at q
    have hv : ∀ j ∈ iosOf as, ∃ v, σ[j]? = some (some v) := fun j hj => by
      have := List.all_eq_true.mp hh j hj
      split at this
      · rename_i d e
        obtain ⟨v, ri, rest, e1, _⟩ := pr.2.1.take' e
        exact ⟨v, e1⟩
      · cases this
    refine ht σ H _ hv ⟨n, c, s, R, Mr, pr, ?_⟩
    unfold mCallE at q
    cases hm : mAgs as s with
    | bad => rw [hm] at q; exact q
    | er e s' => rw [hm] at q; exact q
    | ok xs s1 =>
      rw [hm, Rz.bind_ok] at q
      have hpos : posM 0 xs = io := (mAgs_pos 0 hm).trans hio
      intro n1 R1 H1 l1 _ rl1 vs xm o1
      cases ht : takeA s1.fr xs with
      | none => rw [ht] at q; exact False.elim q
      | some y =>
        obtain ⟨ds, fr1⟩ := y
        rw [ht] at q
        dsimp only at q
        obtain ⟨rf, rw', er, h1, h2, h3, h4⟩ := rl1
        obtain ⟨rd, rest, e1, xd, h1'⟩ := takeA_ok h1 xm ht
        refine ⟨n1, s1.wd, ds, rd, rw', rest + Mr, (pg l1 pr.1).1, xd, h2, o1.cast (by rw [er, e1]; ac_rfl), ?_⟩
        have pw : ∀ {n2 : En} {wd : Option (List Ob)}, (s1.wd = none → wd = none ∧ n2.wa = n1.wa) → PwOk n2 wd c.pw := fun {n2 wd} z => by
          cases hc : c.pw with
          | none => trivial
          | some w =>
            rw [hc] at h4
            obtain ⟨z1, z2⟩ := z h4.1
            exact ⟨z1, z2.trans h4.2⟩
        cases hF : F s1.wd ds with
        | bad => rw [hF] at q; exact False.elim q
        | er e os wd =>
          rw [hF] at q
          dsimp only at q
          cases hp : putA fr1 xs os with
          | none => rw [hp] at q; exact False.elim q
          | some fr2 =>
            rw [hp] at q
            intro n2 ro rw2 H2 l2 z x2 y2 o2
            rw [← hpos] at x2
            exact q n2 (ro + rest + rw2) H2 (l1.trans l2) ⟨ro + rest, rw2, rfl, putA_ok (h1'.mono l2) xm x2 hp, y2, h3, pw z⟩ (o2.cast (by ac_rfl))
        | ok d os wd =>
          rw [hF] at q
          dsimp only at q
          cases hp : putA fr1 xs os with
          | none => rw [hp] at q; exact False.elim q
          | some fr2 =>
            rw [hp] at q
            intro n2 v r ro rw2 H2 l2 z x2 y2 xd2 o2
            rw [← hpos] at x2
            exact q n2 (ro + rest + rw2) H2 (l1.trans l2) (fun z => absurd z Bool.false_ne_true) ⟨ro + rest, rw2, rfl, putA_ok (h1'.mono l2) xm x2 hp, y2, h3, pw z⟩ v ⟨r, xd2, o2.cast (by ac_rfl)⟩
def mCallE' (F : Fm) (as : List Ag) : M D := fun s => if hasIo as s = true then mCallE F as s else .bad
theorem sf_callE {io : List Nat} {as : List Ag} (G : GF X.prog X.w X.K X.mg X.base x k ps (spF g.toGd io F)) (hio : posA 0 as = io) (hr : Room k X.A) (tk : Takes X W) (ha : SM X g W (e :: es) as) (hg : Gl X x := by rfl) (hdb : (x == ("__debug__" : Str)) = false := by decide)
    (he : starEach (e :: es) X.env = (false, eval e X.env) :: starEach es X.env := by rfl) (hpl : (backTo pos (starEach es X.env)).any (·.1) = false := by rfl) : SE X g W .F false (.Call (.Name x q) (e :: es) [] pos) (mCallE' F as) := by
  obtain ⟨t, pa, ht⟩ := ha
  exact PE.imp (pe_callG G hr tk pa hg hdb he hpl) fun σ H Q h => callE_core hio ht h
end
end Mi

namespace Mi
open PySem PySem.Spec PyProof.Rows Hk
open L2 hiding Takes XE CX takes_of passes_call MkP PMk ps_raise mk_of ps_try_as passAt pmk_own
open L2N (Takes XE CX takes_of passes_call MkP PMk ps_raise mk_of ps_try_as passAt pmk_own)
/-! ## what is walked -/
def ItOk (n : En) (t : Rs) (J : It) (ds : List D) : Prop := ∀ (n' : En) (H : Hp) (Rest : Rs), n.le n' → Ok n'.B Rest H → Sub t Rest → ∀ i,
  (∀ d, ds[i]? = some d → J.go i H ∧ ∀ x H', J.yld i H x H' → ∃ n'', n'.le n'' ∧ n''.wa = n'.wa ∧ Enc n'' d x 0 ∧ Ok n''.B Rest H') ∧ (ds.length ≤ i → J.stop i H)
def finI (Mr : Rs) (Rk : It → Hp → Prop) : List D → En → Rs → Hp → Prop := fun ds n R H => ∀ J t, ItOk n t J ds → Ok n.B (t + (R + Mr)) H → Rk J H
def tI (g : Gj) (W : WX) (p : Bool) (m : M (List D)) : TI := fun σ H Rk => ∃ n pn s R Mr, Pre g n pn s σ R Mr H ∧ Post g W p pn n s σ R Mr (finI Mr Rk) (m s)
def SI (X : Cx) (g : Gj) (W : WX) (p : Bool) (tg it : Expr) (m : M (List D)) : Prop := PI X tg it (tI g W p m)
theorem PI.imp {X : Cx} {tg e : Expr} {t t' : TI} (h : PI X tg e t) (k : ∀ σ H Q, t' σ H Q → t σ H Q) : PI X tg e t' := ⟨fun pins s σ H Q I q => h.run pins s σ H Q I (k _ _ _ q)⟩
theorem encL_ix {n : En} {ds : List D} {vs : List V} {i : Nat} {d : D} {x : V} (h : EncL n ds vs 0) (e : ds[i]? = some d) (ex : vs[i]? = some x) : Enc n d x 0 := by
  obtain ⟨v, ri, e1, e2, e3⟩ := h.get e
  rw [ex] at e1
  cases e1
  obtain ⟨u, eu⟩ := e3
  obtain ⟨rfl, _⟩ := Rs.zero_of_add eu
  exact e2
section
variable {X : Cx} {g : Gj} {W : WX} {p pa pb : Bool} {a b e o tg : Expr} {es : List Expr} {ma mb m : M D} {ms : M (List D)} {pos q apos : Pos}
def dIt : D → Option (List D)
  | .lst _ ds => if cpL ds = true then some ds else none
  | _ => none
def dItT : D → Option (List D)
  | .tup ds => some ds
  | _ => none
def dItS : D → Option (List D)
  | .str z => some (z.cps.toList.map fun c => .str ⟨#[c]⟩)
  | _ => none
def mIt (f : D → Option (List D)) (m : M D) : M (List D) := fun s => (m s).bind fun d s1 => mOpt (f d) s1
theorem it_core {f : D → Option (List D)} {r : V → Hp → (It → Hp → Prop) → Prop} (hf : ∀ (n : En) (d : D) (v : V) (rr : Rs) (ds : List D) (T : Rs) (H : Hp) (Rk : It → Hp → Prop), n.g = g.toGd → Enc n d v rr → Ok n.B (rr + T) H → f d = some ds → (∀ J, ItOk n rr J ds → Rk J H) → r v H Rk)
    (σ : L2.St) (H : Hp) (Rk : It → Hp → Prop) (h : tI g W p (mIt f m) σ H Rk) : tE g W .F p m σ H fun x H1 => r x H1 Rk := by
  obtain ⟨n, pn, s, R, Mr, pr, q⟩ := h
  refine ⟨n, pn, s, R, Mr, pr, Post.mono q fun d s1 n1 R1 H1 l1 e1 rl1 q v o => ?_⟩
  obtain ⟨rr, x, o⟩ := o
  cases hd : f d with
  | none => rw [hd] at q; exact False.elim q
  | some ds =>
    rw [hd] at q
    exact hf n1 d v rr ds (R1 + Mr) H1 Rk (pg l1 pr.1).1 x o hd fun J hJ => q n1 R1 H1 l1 e1 rl1 J rr hJ o
theorem Enc.seqS {n : En} {m : Md} {ds : List D} {v : V} {r : Rs} (x : Enc n (.lst m ds) v r) : ∃ a vs r', v = .ref a ∧ EncL n ds vs r' ∧ Sub r' r ∧ ∀ (n' : En) (T : Rs) (H : Hp), n.le n' → Ok n'.B T H → Sub r T → SqL n.g.K H a vs := by
  cases m with
  | o =>
    obtain ⟨a, vs, r', rfl, rfl, hl⟩ := x
    exact ⟨a, vs, r', rfl, hl, ⟨Rs.one a (.lst vs), by ac_rfl⟩, fun n' T H l o s => .inl (.inl (o.at (Sub.trans ⟨r', rfl⟩ s)))⟩
  | f =>
    obtain ⟨rfl, a, vs, rfl, q, hl⟩ := x
    exact ⟨a, vs, 0, rfl, hl, Sub.zero _, fun n' T H l o s => .inl (.inl (o.same _ _ (l.2.2 _ _ q)))⟩
  | r =>
    obtain ⟨rfl, a, vs, rfl, q, hl⟩ := x
    exact ⟨a, vs, 0, rfl, hl, Sub.zero _, fun n' T H l o s => Same.seq o.same (Same.seq l.2.2 q)⟩
theorem Enc.tupS {n : En} {ds : List D} {v : V} {r : Rs} (x : Enc n (.tup ds) v r) : r = 0 ∧ ∃ a vs, v = .ref a ∧ EncL n ds vs 0 ∧ ∀ (n' : En) (T : Rs) (H : Hp), n.le n' → Ok n'.B T H → SqT n.g.K H a vs := by
  obtain ⟨rfl, a, vs, rfl, q, hl⟩ := x
  exact ⟨rfl, a, vs, rfl, hl, fun n' T H l o => Same.seqT o.same (Same.seqT l.2.2 q)⟩
theorem si_list (hK : X.K = g.K) (ha : SE X g W .F p e m) : SI X g W p tg e (mIt dIt m) :=
  PI.imp (pi_listK (K := g.K) ha hK) fun σ H Rk h => it_core (r := fun x H1 R => ∃ a, x = .ref a ∧ (∃ xs, SqL g.K H1 a xs) ∧ R (Itl g.K a) H1) (fun n d v rr ds T H Rk hg x o e q => by
    have hk : n.g.K = g.K := by rw [hg]
    cases d <;> first | (cases e; done) | skip
    rename_i md xs
    have e : (if cpL xs = true then some xs else none) = some ds := e
    cases c : cpL xs with
    | false => rw [c] at e; cases e
    | true =>
      rw [c, if_pos rfl] at e
      cases e
      obtain ⟨a, vs, r', rfl, hl, _, st⟩ := x.seqS
      have z := hl.cp c
      subst z
      rw [hk] at st
      refine ⟨a, rfl, ⟨vs, st n _ H (En.le.refl n) o ⟨T, rfl⟩⟩, q _ fun n' H' Rest l o' u i => ?_⟩
      have hq' := st n' _ H' l o' u
      refine ⟨fun d ed => ?_, fun hi => ⟨vs, hq', by rw [hl.len]; exact hi⟩⟩
      have hlt : i < vs.length := by rw [hl.len]; exact (List.getElem?_eq_some_iff.mp ed).1
      refine ⟨⟨vs, vs[i], hq', List.getElem?_eq_getElem hlt⟩, fun x2 H2 y => ?_⟩
      obtain ⟨rfl, y⟩ := y
      exact ⟨n', En.le.refl n', rfl, (encL_ix hl ed (y vs hq')).mono l, o'⟩) σ H Rk h
theorem si_tup (hK : X.K = g.K) (ha : SE X g W .F p e m) : SI X g W p tg e (mIt dItT m) :=
  PI.imp (pi_tupK (K := g.K) ha hK) fun σ H Rk h => it_core (r := fun x H1 R => ∃ a, x = .ref a ∧ (∃ xs, SqT g.K H1 a xs) ∧ R (Itt g.K a) H1) (fun n d v rr ds T H Rk hg x o e q => by
    have hk : n.g.K = g.K := by rw [hg]
    cases d <;> first | (cases e; done) | skip
    cases e
    obtain ⟨rfl, a, vs, rfl, hl, st⟩ := x.tupS
    rw [hk] at st
    refine ⟨a, rfl, ⟨vs, st n _ H (En.le.refl n) o⟩, q _ fun n' H' Rest l o' u i => ?_⟩
    have hq' := st n' _ H' l o'
    refine ⟨fun d ed => ?_, fun hi => ⟨vs, hq', by rw [hl.len]; exact hi⟩⟩
    have hlt : i < vs.length := by rw [hl.len]; exact (List.getElem?_eq_some_iff.mp ed).1
    refine ⟨⟨vs, vs[i], hq', List.getElem?_eq_getElem hlt⟩, fun x2 H2 y => ?_⟩
    obtain ⟨rfl, y⟩ := y
    exact ⟨n', En.le.refl n', rfl, (encL_ix hl ed (y vs hq')).mono l, o'⟩) σ H Rk h
theorem si_str (ha : SE X g W .F p e m) : SI X g W p tg e (mIt dItS m) :=
  PI.imp (pi_str ha) fun σ H Rk h => it_core (r := fun v H1 R => ∃ x, v = .str x ∧ R (Its x) H1) (fun n d v rr ds T H Rk hg x o e q => by
    cases d <;> first | (cases e; done) | skip
    rename_i z
    cases e
    obtain ⟨rfl, rfl⟩ := x
    refine ⟨z, rfl, q _ fun n' H' Rest l o' u i => ⟨fun d ed => ?_, fun hi => ?_⟩⟩
    · rw [List.getElem?_map] at ed
      cases ec : z.cps.toList[i]? with
      | none => rw [ec] at ed; cases ed
      | some c =>
        rw [ec] at ed
        cases ed
        have ec' : z.cps[i]? = some c := by rw [← ec]; simp
        refine ⟨(Array.getElem?_eq_some_iff.mp ec').1, fun x2 H2 y => ?_⟩
        obtain ⟨rfl, c', e', rfl⟩ := y
        rw [ec'] at e'
        cases e'
        exact ⟨n', En.le.refl n', rfl, ⟨rfl, rfl⟩, o'⟩
    · rw [List.length_map] at hi
      show z.cps.size ≤ i
      simpa using hi) σ H Rk h
/-! ranges -/
def rangeD (lo : Int) (n : Nat) : List D := (List.range n).map fun i => .int (lo + (i : Nat))
theorem rangeD_ok {n : En} {lo : Int} {k : Nat} : ItOk n 0 (Itr lo k) (rangeD lo k) := fun n' H' Rest l o' u i => by
  refine ⟨fun d ed => ?_, fun hi => ?_⟩
  · unfold rangeD at ed
    rw [List.getElem?_map] at ed
    cases ec : (List.range k)[i]? with
    | none => rw [ec] at ed; cases ed
    | some c =>
      rw [ec] at ed
      cases ed
      obtain ⟨hlt, ec⟩ := List.getElem?_eq_some_iff.mp ec
      rw [List.getElem_range] at ec
      subst ec
      refine ⟨(show i < k by simpa using hlt), fun x2 H2 y => ?_⟩
      obtain ⟨rfl, rfl⟩ := y
      exact ⟨n', En.le.refl n', rfl, ⟨rfl, rfl⟩, o'⟩
  · unfold rangeD at hi
    rw [List.length_map, List.length_range] at hi
    exact hi
def stepD (lo c : Int) (n : Nat) : List D := (List.range n).map fun i => .int (lo + (i : Nat) * c)
theorem stepD_ok {n : En} {lo c : Int} {k : Nat} : ItOk n 0 (Itc lo c k) (stepD lo c k) := fun n' H' Rest l o' u i => by
  refine ⟨fun d ed => ?_, fun hi => ?_⟩
  · unfold stepD at ed
    rw [List.getElem?_map] at ed
    cases ec : (List.range k)[i]? with
    | none => rw [ec] at ed; cases ed
    | some c =>
      rw [ec] at ed
      cases ed
      obtain ⟨hlt, ec⟩ := List.getElem?_eq_some_iff.mp ec
      rw [List.getElem_range] at ec
      subst ec
      refine ⟨(show i < k by simpa using hlt), fun x2 H2 y => ?_⟩
      obtain ⟨rfl, rfl⟩ := y
      exact ⟨n', En.le.refl n', rfl, ⟨rfl, rfl⟩, o'⟩
  · unfold stepD at hi
    rw [List.length_map, List.length_range] at hi
    exact hi
def smallI (i : Int) : Bool := decide (-(2 ^ 62) ≤ i) && decide (i < 2 ^ 62)
theorem smallI_ok {i : Int} (h : smallI i = true) : -(2 ^ 62) ≤ i ∧ i < 2 ^ 62 := by
  unfold smallI at h
  rw [Bool.and_eq_true] at h
  exact ⟨of_decide_eq_true h.1, of_decide_eq_true h.2⟩
def dR1 (ds : List D) : Option (List D) := match intsD ds with
  | some [j] => if smallI j = true then some (rangeD 0 j.toNat) else none
  | _ => none
def dR2 (ds : List D) : Option (List D) := match intsD ds with
  | some [i, j] => if (smallI i && smallI j) = true then some (rangeD i (j - i).toNat) else none
  | _ => none
def dR3 (ds : List D) : Option (List D) := match intsD ds with
  | some [i, j, c] => if (decide (c ≠ 0) && decide (c.natAbs < 1073741824) && Builtin.Range.small i j c && decide (0 ≤ Builtin.Range.rangeSize i j c)) = true then some (stepD i c (Builtin.Range.rangeSize i j c).toNat) else none
  | _ => none
def mRange (f : List D → Option (List D)) (ms : M (List D)) : M (List D) := fun s => (ms s).bind fun ds s1 => mOpt (f ds) s1
theorem range_core {f : List D → Option (List D)} {r : List V → Hp → (It → Hp → Prop) → Prop} (hf : ∀ (ds : List D) (is : List Int) (xs : List D) (H : Hp) (Rk : It → Hp → Prop), intsD ds = some is → f ds = some xs → (∀ J, (∀ n, ItOk n 0 J xs) → Rk J H) → r (is.map V.int) H Rk)
    (hi : ∀ ds xs, f ds = some xs → ∃ is, intsD ds = some is)
    (σ : L2.St) (H : Hp) (Rk : It → Hp → Prop) (h : tI g W p (mRange f ms) σ H Rk) : tA g W p ms σ H fun x H1 => r x H1 Rk := by
  obtain ⟨n, pn, s, R, Mr, pr, q⟩ := h
  refine ⟨n, pn, s, R, Mr, pr, Post.mono q fun ds s1 n1 R1 H1 l1 e1 rl1 q vs x o => ?_⟩
  cases hd : f ds with
  | none => rw [hd] at q; exact False.elim q
  | some xs =>
    rw [hd] at q
    obtain ⟨is, hi⟩ := hi ds xs hd
    rw [ints_enc hi x]
    exact hf ds is xs H1 Rk hi hd fun J hJ => q n1 R1 H1 l1 e1 rl1 J 0 (hJ n1) (by rw [Rs.zero_add]; exact o)
theorem encL_1 {n : En} {d : D} {vs : List V} (h : EncL n [d] vs 0) : ∃ v, vs = [v] ∧ Enc n d v 0 := by
  obtain ⟨v, vs', r1, r2, rfl, e1, h1, rfl, e2⟩ := h
  obtain ⟨rfl, rfl⟩ := Rs.zero_of_add e1
  exact ⟨v, rfl, h1⟩
theorem si_range1 (hg : Gl X "range") (hm : X.mg "range" = none) (ha : SA X g W p [a] ms) (hs : starEach [a] X.env = [(false, eval a X.env)] := by rfl) : SI X g W p tg (.Call (.Name "range" q) [a] [] pos) (mRange dR1 ms) :=
  PI.imp (pi_range1 hg hm ha hs) fun σ H Rk h => range_core (f := dR1) (r := fun vs H1 R => ∃ j : Int, vs = [.int j] ∧ -(2 ^ 62) ≤ j ∧ j < 2 ^ 62 ∧ R (Itr 0 j.toNat) H1) (fun ds is xs H Rk hi e q => by
    unfold dR1 at e
    rw [hi] at e
    match is, e with
    | [j], e =>
      have e : (if smallI j = true then some (rangeD 0 j.toNat) else none) = some xs := e
      cases c : smallI j with
      | false => rw [c] at e; cases e
      | true =>
        rw [c, if_pos rfl] at e
        cases e
        exact ⟨j, rfl, (smallI_ok c).1, (smallI_ok c).2, q _ fun n => rangeD_ok⟩
    | [], e => cases e
    | _ :: _ :: _, e => cases e) (fun ds xs e => by
      unfold dR1 at e
      cases hi : intsD ds with
      | none => rw [hi] at e; cases e
      | some is => exact ⟨is, rfl⟩) σ H Rk h
theorem si_range2 (hg : Gl X "range") (hm : X.mg "range" = none) (ha : SA X g W p [a, b] ms) (hs : starEach [a, b] X.env = [(false, eval a X.env), (false, eval b X.env)] := by rfl) (hs2 : starEach [b] X.env = [(false, eval b X.env)] := by rfl) : SI X g W p tg (.Call (.Name "range" q) [a, b] [] pos) (mRange dR2 ms) :=
  PI.imp (pi_range2 hg hm ha hs hs2) fun σ H Rk h => range_core (f := dR2) (r := fun vs H1 R => ∃ i j : Int, vs = [.int i, .int j] ∧ (-(2 ^ 62) ≤ i ∧ i < 2 ^ 62 ∧ -(2 ^ 62) ≤ j ∧ j < 2 ^ 62) ∧ R (Itr i (j - i).toNat) H1) (fun ds is xs H Rk hi e q => by
    unfold dR2 at e
    rw [hi] at e
    match is, e with
    | [i, j], e =>
      have e : (if (smallI i && smallI j) = true then some (rangeD i (j - i).toNat) else none) = some xs := e
      cases c : (smallI i && smallI j) with
      | false => rw [c] at e; cases e
      | true =>
        rw [c, if_pos rfl] at e
        cases e
        rw [Bool.and_eq_true] at c
        exact ⟨i, j, rfl, ⟨(smallI_ok c.1).1, (smallI_ok c.1).2, (smallI_ok c.2).1, (smallI_ok c.2).2⟩, q _ fun n => rangeD_ok⟩
    | [], e => cases e
    | [_], e => cases e
    | _ :: _ :: _ :: _, e => cases e) (fun ds xs e => by
      unfold dR2 at e
      cases hi : intsD ds with
      | none => rw [hi] at e; cases e
      | some is => exact ⟨is, rfl⟩) σ H Rk h
theorem si_range3 {c : Expr} (hg : Gl X "range") (hm : X.mg "range" = none) (ha : SA X g W p [a, b, c] ms) (hs : starEach [a, b, c] X.env = (false, eval a X.env) :: starEach [b, c] X.env := by rfl) (hpl : (backTo pos (starEach [b, c] X.env)).any (·.1) = false := by rfl) : SI X g W p tg (.Call (.Name "range" q) [a, b, c] [] pos) (mRange dR3 ms) :=
  PI.imp (pi_range3 hg hm ha hs hpl) fun σ H Rk h => range_core (f := dR3) (r := fun vs H1 R => ∃ (i j c : Int) (n : Nat), vs = [.int i, .int j, .int c] ∧ RgC i j c n ∧ R (Itc i c n) H1) (fun ds is xs H Rk hi e q => by
    unfold dR3 at e
    rw [hi] at e
    match is, e with
    | [i, j, c], e =>
      have e : (if (decide (c ≠ 0) && decide (c.natAbs < 1073741824) && Builtin.Range.small i j c && decide (0 ≤ Builtin.Range.rangeSize i j c)) = true then some (stepD i c (Builtin.Range.rangeSize i j c).toNat) else none) = some xs := e
      cases cc : (decide (c ≠ 0) && decide (c.natAbs < 1073741824) && Builtin.Range.small i j c && decide (0 ≤ Builtin.Range.rangeSize i j c)) with
      | false => rw [cc] at e; cases e
      | true =>
        rw [cc, if_pos rfl] at e
        cases e
        rw [Bool.and_eq_true, Bool.and_eq_true, Bool.and_eq_true] at cc
        have h0 := of_decide_eq_true cc.2
        exact ⟨i, j, c, (Builtin.Range.rangeSize i j c).toNat, rfl, ⟨of_decide_eq_true cc.1.1.1, of_decide_eq_true cc.1.1.2, cc.1.2, by omega⟩, q _ fun n => stepD_ok⟩
    | [], e => cases e
    | [_], e => cases e
    | [_, _], e => cases e
    | _ :: _ :: _ :: _ :: _, e => cases e) (fun ds xs e => by
      unfold dR3 at e
      cases hi : intsD ds with
      | none => rw [hi] at e; cases e
      | some is => exact ⟨is, rfl⟩) σ H Rk h
/-! ## for -/
def loopL (mg : D → MS → Option MS) (k : M Fl) : List D → M Fl
  | [], s => .ok .nx s
  | d :: ds, s => match mg d s with
    | none => .bad
    | some s1 => (match k s1 with
      | .ok .nx s2 => loopL mg k ds s2
      | .ok .ct s2 => loopL mg k ds s2
      | .ok .bk s2 => .ok .nx s2
      | r => r)
def mFor (mi : M (List D)) (mg : D → MS → Option MS) (k : M Fl) : M Fl := fun s => (mi s).bind fun ds s1 => loopL mg k ds s1
theorem ss_for {it : Expr} {body : List Stmt} {mi : M (List D)} {mg : D → MS → Option MS} {k : M Fl} (hp : PassesOwn (model X.prog X.w) X.A X.env X.xe) (hc : X.calm = true) (hi : SI X g W p tg it mi) (hg : SG X g tg mg) (hb : SSs X g W body k)
    (hs : ∀ x, foldedSetIterable it X.env x = pure x := by intro _; rfl) : SS X g W (.For tg it body [] pos) (mFor mi mg k) :=
  PS.imp (ps_for hp hc hi hg hb hs) fun Dn σ H ⟨n, c, s, R, Mr, pr, q⟩ => by
    refine ⟨n, c, s, R, Mr, pr, ?_⟩
    unfold mFor at q
    cases hm : mi s with
    | bad => rw [hm] at q; exact q
    | er e s' => rw [hm] at q; exact fun n2 R2 H2 l2 r2 o2 => q n2 R2 H2 σ l2 r2 o2
    | ok ds s1 =>
      rw [hm, Rz.bind_ok] at q
      intro n1 R1 H1 l1 e1 r1 J t hJ o1
      refine ⟨fun i m σ H => m = ds.length - i ∧ i ≤ ds.length ∧ ∃ n2 s2 R2, n1.le n2 ∧ Pre g n2 c s2 σ R2 (t + Mr) H ∧ PostS g W c n Mr Dn (loopL mg k (ds.drop i) s2),
        ⟨ds.length, by simp, Nat.zero_le _, n1, s1, R1, En.le.refl n1, ⟨pg l1 pr.1, r1, o1.cast (by ac_rfl)⟩, by rw [List.drop_zero]; exact q⟩, ?_⟩
      rintro i m σ H ⟨rfl, hi, n2, s2, R2, l2, pr2, q⟩
      have hJ2 := hJ n2 H _ l2 pr2.2.2 ⟨R2 + Mr, by ac_rfl⟩ i
      by_cases hlt : i < ds.length
      · obtain ⟨hgo, hy⟩ := hJ2.1 ds[i] (List.getElem?_eq_getElem hlt)
        have ed : ds.drop i = ds[i] :: ds.drop (i + 1) := List.drop_eq_getElem_cons hlt
        rw [ed] at q
        refine .inr ⟨hgo, fun σ' H' => ∃ n4 s4 R4, n1.le n4 ∧ Pre g n4 c s4 σ' R4 (t + Mr) H' ∧ PostS g W c n Mr Dn (loopL mg k (ds.drop (i + 1)) s4), fun σ' H' h => ⟨_, by omega, rfl, hlt, h⟩, fun x H' y => ?_⟩
        obtain ⟨n3, l3, w3, xd, o3⟩ := hy x H' y
        unfold loopL at q
        cases hg' : mg ds[i] s2 with
        | none => rw [hg'] at q; exact False.elim q
        | some s3 =>
          rw [hg'] at q
          dsimp only at q
          refine ⟨n3, c, s2, R2, t + Mr, ds[i], s3, ⟨pg l3 pr2.1, pr2.2.1.mono l3 w3, o3⟩, xd, hg', fun n4 R4 H4 σ4 l4 r4 o4 => ⟨n4, c, s3, R4, t + Mr, ⟨pg l4 (pg l3 pr2.1), r4, o4⟩, ?_⟩⟩
          have l14 : n1.le n4 := (l2.trans l3).trans l4
          have l04 : n.le n4 := l1.trans l14
          cases hk : k s3 with
          | bad => rw [hk] at q; exact q
          | er e s' => rw [hk] at q; exact PostS.mono (n := n) (Mr := Mr) (Dn := Dn) (r := .er e s') q l04 ⟨t, by ac_rfl⟩
          | ok f s5 =>
            rw [hk] at q
            cases f with
            | nx => exact fun n5 R5 H5 σ5 l5 r5 o5 => ⟨n5, s5, R5, l14.trans l5, ⟨pg l5 (pg l4 (pg l3 pr2.1)), r5, o5⟩, q⟩
            | ct => exact fun n5 R5 H5 σ5 l5 r5 o5 => ⟨n5, s5, R5, l14.trans l5, ⟨pg l5 (pg l4 (pg l3 pr2.1)), r5, o5⟩, q⟩
            | bk => exact fun n5 R5 H5 σ5 l5 r5 o5 => q n5 R5 H5 σ5 (l04.trans l5) r5 ((o5.cast (show _ = t + (R5 + Mr) by ac_rfl)).drop)
            | rt d => exact fun n5 R5 H5 σ5 v r l5 r5 x5 o5 => q n5 R5 H5 σ5 v r (l04.trans l5) r5 x5 ((o5.cast (show _ = t + (r + (R5 + Mr)) by ac_rfl)).drop)
      · have ei : i = ds.length := by omega
        refine .inl ⟨hJ2.2 (by omega), ?_⟩
        rw [ei, List.drop_length] at q
        exact q n2 R2 H σ (l1.trans l2) pr2.2.1 ((pr2.2.2.cast (show _ = t + (R2 + Mr) by ac_rfl)).drop)
end
end Mi

namespace Mi
open PySem PySem.Spec PyProof.Rows Hk
open L2 hiding Takes XE CX takes_of passes_call MkP PMk ps_raise mk_of ps_try_as passAt pmk_own
open L2N (Takes XE CX takes_of passes_call MkP PMk ps_raise mk_of ps_try_as passAt pmk_own)
/-! ## comprehensions -/
theorem wipe_in {σ : L2.St} {j : Nat} : ∀ {vs : List Nat}, j ∈ vs → (wipe σ vs)[j]? = if j < σ.length then some none else none
  | v :: vs, h => by
    show ((wipe σ vs).set v none)[j]? = _
    by_cases e : v = j
    · subst e
      by_cases hl : v < σ.length
      · rw [List.getElem?_set_self (by rw [wipe_length]; exact hl), if_pos hl]
      · rw [if_neg hl, List.getElem?_eq_none (by rw [List.length_set, wipe_length]; omega)]
    · rw [List.getElem?_set_ne e]
      rcases List.mem_cons.mp h with z | z
      · exact absurd z.symm e
      · exact wipe_in z
theorem wipe_set {σ : L2.St} {i : Nat} {x : Option V} {vs : List Nat} (h : i ∈ vs) : wipe (σ.set i x) vs = wipe σ vs := by
  refine List.ext_getElem? fun j => ?_
  by_cases hj : j ∈ vs
  · rw [wipe_in hj, wipe_in hj, List.length_set]
  · rw [wipe_out hj, wipe_out hj, List.getElem?_set_ne (fun z => hj (by rw [← z]; exact h))]
theorem wipe_wipe {σ : L2.St} {vs : List Nat} : wipe (wipe σ vs) vs = wipe σ vs := by
  refine List.ext_getElem? fun j => ?_
  by_cases hj : j ∈ vs
  · rw [wipe_in hj, wipe_in hj, wipe_length]
  · rw [wipe_out hj]
def wipeF (fr : List (Option D)) : List Nat → List (Option D)
  | [] => fr
  | v :: vs => (wipeF fr vs).set v none
theorem EncFr.wipe {n : En} {fr : List (Option D)} {σ : L2.St} {r : Rs} (h : EncFr n fr σ r) : ∀ vs : List Nat, ∃ r' old, EncFr n (wipeF fr vs) (wipe σ vs) r' ∧ r = old + r'
  | [] => ⟨r, 0, h, (Rs.zero_add r).symm⟩
  | v :: vs => by
    obtain ⟨r', old, h', e⟩ := EncFr.wipe h vs
    obtain ⟨r'', old', h'', e'⟩ := h'.forget v none
    exact ⟨r'', old + old', h'', by rw [e, e', Rs.add_assoc]⟩
/-- a slot that is empty is filled -/
theorem EncFr.fill {n : En} : ∀ {fr : List (Option D)} {σ : List (Option V)} {r : Rs} (i : Nat) {d : D} {v : V}, EncFr n fr σ r → fr[i]? = some none → Enc n d v 0 → EncFr n (fr.set i (some d)) (σ.set i (some v)) r
  | [], _, _, _, _, _, _, e, _ => by simp at e
  | none :: fr, _, r, 0, _, v, h, _, hd => by
    obtain ⟨x, σ', rfl, h⟩ := h
    exact ⟨v, σ', 0, r, rfl, (Rs.zero_add r).symm, hd, h⟩
  | none :: fr, _, _, i + 1, _, _, h, e, hd => by
    obtain ⟨x, σ', rfl, h⟩ := h
    exact ⟨x, _, rfl, EncFr.fill i h e hd⟩
  | some d0 :: fr, _, _, 0, _, _, _, e, _ => by cases e
  | some d0 :: fr, _, _, i + 1, _, _, h, e, hd => by
    obtain ⟨v0, σ', r1, r2, rfl, rfl, h1, h2⟩ := h
    exact ⟨v0, _, r1, r2, rfl, rfl, h1, EncFr.fill i h2 e hd⟩
section
variable {X : Cx} {g : Gj} {W : WX} {p pa pb : Bool} {a b e o tg : Expr} {es : List Expr} {ma mb m : M D} {ms : M (List D)} {pos q apos : Pos}
/-- a comprehension's target: the slots ts are empty, they are filled -/
def SGc (X : Cx) (g : Gj) (ts : List Nat) (tg : Expr) (mg : D → MS → Option MS) : Prop := PG X tg fun v σ H Q => ∃ n c s R Mr d s', Pre g n c s σ R Mr H ∧ Enc n d v 0 ∧ (∀ i ∈ ts, s.fr[i]? = some none) ∧ mg d s = some s' ∧
  ∀ σ' H', RelS n c s' σ' R → Ok n.B (R + Mr) H' → (∀ vs, (∀ i ∈ ts, i ∈ vs) → wipe σ' vs = wipe σ vs) → (∀ j, j ∉ ts → s'.fr[j]? = s.fr[j]?) → Q σ' H'
def SGcs (X : Cx) (g : Gj) (ts : List Nat) (es : List Expr) (mgs : List D → MS → Option MS) : Prop := PGs X es fun vs σ H Q => ∃ n c s R Mr ds s', Pre g n c s σ R Mr H ∧ EncL n ds vs 0 ∧ (∀ i ∈ ts, s.fr[i]? = some none) ∧ mgs ds s = some s' ∧
  ∀ σ' H', RelS n c s' σ' R → Ok n.B (R + Mr) H' → (∀ vs, (∀ i ∈ ts, i ∈ vs) → wipe σ' vs = wipe σ vs) → (∀ j, j ∉ ts → s'.fr[j]? = s.fr[j]?) → Q σ' H'
theorem sgc_name {i : Nat} {x : Str} (hN : X.N.Nodup) (hi : X.N[i]? = some x) (hx : Loc X.env.scope x) (hp : okSlot g i) (hf : X.fn x = true ∨ X.env.scope.names.lookup x = some .local := by first | exact .inl rfl | exact .inr rfl | assumption) : SGc X g [i] (.Name x pos) (mgName i) := by
  refine ⟨fun pins s σ H v u Q I r ⟨n, c, ms, R, Mr, d, s', pr, x, hts, e, q⟩ => (pg_name hN hi hx hf).run pins s σ H v u Q I r ?_⟩
  unfold mgName at e
  split at e
  · rename_i hl
    cases e
    obtain ⟨rf, rw', er, h1, h2, h3, h4⟩ := pr.2.1
    refine q _ H ⟨rf, rw', er, h1.fill i (hts i List.mem_cons_self) x, h2, pin_set h3 (by rw [pr.1.2]; exact hp.no), h4⟩ pr.2.2 (fun vs hvs => wipe_set (hvs i List.mem_cons_self)) fun j hj => ?_
    exact List.getElem?_set_ne fun z => hj (by rw [z]; exact List.mem_cons_self)
  · cases e
theorem sgcs_nil : SGcs X g [] [] mgNil := ⟨fun pins s σ H vs us Q I r ⟨n, c, ms, R, Mr, ds, s', pr, x, _, e, q⟩ => (pgs_nil (X := X)).run pins s σ H vs us Q I r (by
  cases ds with
  | nil => cases e; exact ⟨x.1, q σ H pr.2.1 pr.2.2 (fun _ _ => rfl) fun _ _ => rfl⟩
  | cons d ds => cases e)⟩
theorem sgcs_cons {ts us : List Nat} {mg : D → MS → Option MS} {mgs : List D → MS → Option MS} (h1 : SGc X g ts e mg) (h2 : SGcs X g us es mgs) (hd' : us.all (fun i => !ts.contains i) = true)
    (hs : (assignEach (e :: es) X.env).map (·.2) = assign e X.env :: (assignEach es X.env).map (·.2) := by rfl) : SGcs X g (ts ++ us) (e :: es) (mgCons mg mgs) :=
  ⟨fun pins s σ H vs us' Q I r ⟨n, c, ms, R, Mr, ds, s', pr, x, hts, e, q⟩ => (pgs_cons h1 h2 hs).run pins s σ H vs us' Q I r (by
    cases ds with
    | nil => cases e
    | cons d ds =>
      obtain ⟨v, vs', r1, r2, rfl, er, x1, x2⟩ := x
      obtain ⟨rfl, rfl⟩ := Rs.zero_of_add er
      have e : (mg d ms).bind (fun s1 => mgs ds s1) = some s' := e
      cases e1 : mg d ms with
      | none => rw [e1] at e; cases e
      | some s1 =>
        rw [e1] at e
        refine ⟨v, vs', rfl, n, c, ms, R, Mr, d, s1, pr, x1, fun i hi => hts i (List.mem_append_left _ hi), e1, fun σ1 H1 rl1 o1 w1 k1 => ⟨n, c, s1, R, Mr, ds, s', ⟨pr.1, rl1, o1⟩, x2, fun i hi => ?_, e, fun σ2 H2 rl2 o2 w2 k2 => q σ2 H2 rl2 o2 (fun vs hvs => ?_) fun j hj => ?_⟩⟩
        · rw [k1 i (fun z => by
            have := List.all_eq_true.mp hd' i hi
            rw [Bool.not_eq_true', ← Bool.not_eq_true] at this
            exact this (List.contains_iff_mem.mpr z))]
          exact hts i (List.mem_append_right _ hi)
        · rw [w2 vs fun i hi => hvs i (List.mem_append_right _ hi), w1 vs fun i hi => hvs i (List.mem_append_left _ hi)]
        · rw [k2 j fun z => hj (List.mem_append_right _ z), k1 j fun z => hj (List.mem_append_left _ z)])⟩
theorem sgc_tup {ts : List Nat} {kk : Nat} {mgs : List D → MS → Option MS} {nn : Nat} (hc : X.calm = true) (hK : X.K = g.K) (h : SGcs X g ts es mgs) (hl : ∀ ds s s', mgs ds s = some s' → ds.length = nn)
    (hn : (assignEach es X.env).length = nn := by rfl) (hst : (assignEach es X.env).findIdx? (·.1) = none := by rfl) : SGc X g ts (.Tuple es kk pos) (mgTup mgs) :=
  ⟨fun pins s σ H v u Q I r ⟨n, c, ms, R, Mr, d, s', pr, x, hts, e, q⟩ => (pg_tupK (K := g.K) hc h hn hst hK).run pins s σ H v u Q I r (by
    cases d <;> first | (cases e; done) | skip
    rename_i ds
    obtain ⟨a, vs, rfl, hq, hx⟩ := x.tup pr.2.2
    exact ⟨a, vs, rfl, by rw [show g.K = n.g.K by rw [pr.1.1]]; exact hq, by rw [hx.len]; exact hl _ _ _ e, n, c, ms, R, Mr, ds, s', pr, hx, hts, e, q⟩)⟩
def W0 : WX := fun _ _ _ _ => False
def STs (X : Cx) (g : Gj) (es : List Expr) (m : M Bool) : Prop := PTs X es (tB g W0 true m)
theorem PTs.imp {X : Cx} {e : List Expr} {t t' : TT} (h : PTs X e t) (k : ∀ σ H Q, t' σ H Q → t σ H Q) : PTs X e t' := ⟨fun pins s σ H Q I q => h.run pins s σ H Q I (k _ _ _ q)⟩
theorem sts_nil : STs X g [] (fun s => .ok true s) := PTs.imp pts_nil fun σ H Q ⟨n, pn, s, R, Mr, pr, q⟩ => q n R H (En.le.refl n) (fun _ => ⟨rfl, rfl, rfl⟩) pr.2.1 pr.2.2
theorem sts_one {m : M Bool} (h : ST X g W0 true e m) : STs X g [e] m := pts_one h
def turnC (mg : D → MS → Option MS) (mt : M Bool) (me : M D) (s0 : MS) (d : D) : Option (Option D) := match mg d s0 with
  | none => none
  | some s2 => (match mt s2 with
    | .ok true s3 => (match me s3 with
      | .ok y _ => some (some y)
      | _ => none)
    | .ok false _ => some none
    | _ => none)
def compL (f : D → Option (Option D)) : List D → Option (List D)
  | [] => some []
  | d :: ds => (match f d with
    | none => none
    | some (some y) => (compL f ds).map fun ys => y :: ys
    | some none => compL f ds)
def mLc (mi : M (List D)) (vs : List Nat) (mg : D → MS → Option MS) (mt : M Bool) (me : M D) : M D := fun s => (mi s).bind fun ds s1 => if ds.length ≤ 16777216 then (match compL (turnC mg mt me ⟨wipeF s1.fr vs, s1.wd⟩) ds with
  | some ys => .ok (.lst .o ys) s1
  | none => .bad) else .bad
theorem wipeF_in {fr : List (Option D)} {j : Nat} : ∀ {vs : List Nat}, j ∈ vs → j < fr.length → (wipeF fr vs)[j]? = some none
  | v :: vs, h, hl => by
    show ((wipeF fr vs).set v none)[j]? = _
    have len : ∀ vs : List Nat, (wipeF fr vs).length = fr.length := fun vs => by
      induction vs with
      | nil => rfl
      | cons v vs ih => show ((wipeF fr vs).set v none).length = _; rw [List.length_set, ih]
    by_cases e : v = j
    · subst e
      rw [List.getElem?_set_self (by rw [len]; exact hl)]
    · rw [List.getElem?_set_ne e]
      rcases List.mem_cons.mp h with z | z
      · exact absurd z.symm e
      · exact wipeF_in z hl
theorem lc_core {wi : TI} {gg : TG} {tt : TT} {te : TE} {ts vs : List Nat} {mi : M (List D)} {mg : D → MS → Option MS} {mt : M Bool} {me : M D} (hts : ∀ i ∈ ts, i ∈ vs) (hvN : ∀ i ∈ vs, i < X.N.length) (hv : ∀ i ∈ vs, okSlot g i)
    (hwi : ∀ σ H Q, tI g W p mi σ H Q → wi σ H Q)
    (hgg : ∀ v σ H Q, (∃ n c s R Mr d s', Pre g n c s σ R Mr H ∧ Enc n d v 0 ∧ (∀ i ∈ ts, s.fr[i]? = some none) ∧ mg d s = some s' ∧
      ∀ σ' H', RelS n c s' σ' R → Ok n.B (R + Mr) H' → (∀ vs, (∀ i ∈ ts, i ∈ vs) → wipe σ' vs = wipe σ vs) → (∀ j, j ∉ ts → s'.fr[j]? = s.fr[j]?) → Q σ' H') → gg v σ H Q)
    (htt : ∀ σ H Q, tB g W0 true mt σ H Q → tt σ H Q) (hte : ∀ σ H Q, tE g W0 .C true me σ H Q → te σ H Q) (σ : L2.St) (H : Hp) (Q : VK) (hσ : σ.length = X.N.length) (h : tE g W .F p (mLc mi vs mg mt me) σ H Q) : tLc wi gg tt te vs σ H Q := by
  obtain ⟨n, c, s, R, Mr, pr, q⟩ := h
  unfold mLc at q
  refine hwi σ H _ ⟨n, c, s, R, Mr, pr, Post.mono q fun ds s1 n1 R1 H1 l1 e1 r1 q J t hJ o1 D hD => ?_⟩
  by_cases hz : ds.length ≤ 16777216
  · rw [if_pos hz] at q
    cases hy : compL (turnC mg mt me ⟨wipeF s1.fr vs, s1.wd⟩) ds with
    | none => rw [hy] at q; exact False.elim q
    | some ys0 =>
      rw [hy] at q
      have q : Post g W p c n s σ R Mr (finE .F Mr Q) (.ok (.lst .o ys0) s1) := q
      refine ⟨fun i m H => m = ds.length - i ∧ i ≤ ds.length ∧ ∃ n2 acc ys vacc, n1.le n2 ∧ n2.wa = n1.wa ∧ compL (turnC mg mt me ⟨wipeF s1.fr vs, s1.wd⟩) (ds.drop i) = some ys ∧ acc ++ ys = ys0 ∧ acc.length ≤ i ∧ EncL n2 acc vacc 0 ∧
          Ok n2.B (Rs.one D (.lst vacc) + (t + (R1 + Mr))) H,
        ⟨ds.length, by simp, Nat.zero_le _, n1, [], ys0, [], En.le.refl n1, rfl, by rw [List.drop_zero]; exact hy, rfl, Nat.zero_le _, ⟨rfl, rfl⟩, o1.add hD⟩, ?_⟩
      rintro i m H ⟨rfl, hi, n2, acc, ys, vacc, l2, w2, hc, ha, hlen, xa, o2⟩
      have hJ2 := hJ n2 H _ l2 o2 ⟨Rs.one D (.lst vacc) + (R1 + Mr), by ac_rfl⟩ i
      by_cases hlt : i < ds.length
      · obtain ⟨hgo, hy2⟩ := hJ2.1 ds[i] (List.getElem?_eq_getElem hlt)
        rw [List.drop_eq_getElem_cons hlt] at hc
        refine .inr ⟨hgo, fun H => ∃ n2 acc ys vacc, n1.le n2 ∧ n2.wa = n1.wa ∧ compL (turnC mg mt me ⟨wipeF s1.fr vs, s1.wd⟩) (ds.drop (i + 1)) = some ys ∧ acc ++ ys = ys0 ∧ acc.length ≤ i + 1 ∧ EncL n2 acc vacc 0 ∧
          Ok n2.B (Rs.one D (.lst vacc) + (t + (R1 + Mr))) H, fun H' h => ⟨_, by omega, rfl, hlt, h⟩, fun x H' y => ?_⟩
        obtain ⟨n3, l3, w3, xd, o3⟩ := hy2 x H' y
        have l13 := l2.trans l3
        have w13 := w3.trans w2
        have rl3 := r1.mono l13 w13
        obtain ⟨rf, rw', er, h1, h2, h3, h4⟩ := id rl3
        obtain ⟨rf', old, h1', eo⟩ := h1.wipe vs
        have rl0 : RelS n3 c ⟨wipeF s1.fr vs, s1.wd⟩ (wipe σ vs) (rf' + rw') := ⟨rf', rw', rfl, h1', h2, ⟨fun q hq => by
          rw [wipe_out (fun z => (hv q.1 z).no (by rw [← pr.1.2, ← h3.2.keys]; exact List.mem_map_of_mem hq))]
          exact h3.1 q hq, h3.2⟩, h4⟩
        have o3' : Ok n3.B (rf' + rw' + (Rs.one D (.lst vacc) + (t + old + Mr))) H' := o3.cast (by rw [er, eo]; ac_rfl)
        have hfl : s1.fr.length = X.N.length := by rw [← hσ, h1.len]
        unfold compL at hc
        cases hg' : mg ds[i] ⟨wipeF s1.fr vs, s1.wd⟩ with
        | none => simp only [turnC, hg'] at hc; cases hc
        | some s2 =>
          have ct : turnC mg mt me ⟨wipeF s1.fr vs, s1.wd⟩ ds[i] = (match mt s2 with
            | .ok true s3 => (match me s3 with
              | .ok y _ => some (some y)
              | _ => none)
            | .ok false _ => some none
            | _ => none) := by simp only [turnC, hg']
          rw [ct] at hc
          refine hgg x (wipe σ vs) H' _ ⟨n3, c, _, rf' + rw', _, ds[i], s2, ⟨pg l13 (pg l1 pr.1), rl0, o3'⟩, xd, fun j hj => wipeF_in (hts j hj) (by rw [hfl]; exact hvN j (hts j hj)), hg', fun σ4 H4 rl4 o4 hw4 _ => ⟨(hw4 vs hts).trans wipe_wipe, ?_⟩⟩
          refine htt σ4 H4 _ ⟨n3, c, s2, _, _, ⟨pg l13 (pg l1 pr.1), rl4, o4⟩, ?_⟩
          cases hm : mt s2 with
          | bad => rw [hm] at hc; cases hc
          | er e s' => rw [hm] at hc; cases hc
          | ok bb s3 =>
            rw [hm] at hc
            intro n5 R5 H5 l5 e5 rl5 o5
            obtain ⟨w5, rfl, rfl⟩ := e5 rfl
            cases bb with
            | false => exact ⟨n5, acc, ys, vacc, l13.trans l5, w5.trans w13, hc, ha, Nat.le_succ_of_le hlen, xa.mono (l3.trans l5), o5.cast (by rw [er, eo]; ac_rfl)⟩
            | true =>
              rw [if_pos rfl]
              refine hte σ4 H5 _ ⟨n5, c, s3, _, _, ⟨pg l5 (pg l13 (pg l1 pr.1)), rl5, o5⟩, ?_⟩
              dsimp only at hc
              cases hme : me s3 with
              | bad => rw [hme] at hc; cases hc
              | er e s' => rw [hme] at hc; cases hc
              | ok y s4 =>
                rw [hme] at hc
                intro n6 R6 H6 l6 e6 rl6 v o6
                obtain ⟨w6, rfl, rfl⟩ := e6 rfl
                dsimp only at hc
                have o7 : Ok n6.B (Rs.one D (.lst vacc) + (t + (R1 + Mr))) H6 := o6.2.cast (by rw [er, eo]; ac_rfl)
                cases hcl : compL (turnC mg mt me ⟨wipeF s1.fr vs, s1.wd⟩) (ds.drop (i + 1)) with
                | none => rw [hcl] at hc; cases hc
                | some ys' =>
                  rw [hcl] at hc
                  cases hc
                  refine ⟨vacc, o7.at ⟨_, rfl⟩, by rw [xa.len, sizeLine_eq]; omega, n6, acc ++ [y], ys', vacc ++ [v], (l13.trans l5).trans l6, w6.trans (w5.trans w13), rfl, by rw [List.append_assoc]; exact ha, by rw [List.length_append]; exact Nat.succ_le_succ hlen, ?_, o7.put⟩
                  have := (xa.mono ((l3.trans l5).trans l6)).app (EncL.one o6.1)
                  rw [Rs.add_zero] at this
                  exact this
      · have ei : i = ds.length := by omega
        rw [ei, List.drop_length] at hc
        cases hc
        rw [List.append_nil] at ha
        subst ha
        refine .inl ⟨hJ2.2 (by omega), ?_⟩
        exact q n2 R1 H (l1.trans l2) (fun z => ⟨w2.trans (e1 z).1, (e1 z).2⟩) (r1.mono l2 w2) _ ⟨Rs.one D (.lst vacc), ⟨D, vacc, 0, rfl, (Rs.add_zero _).symm, xa⟩, (o2.cast (show _ = t + (Rs.one D (.lst vacc) + (R1 + Mr)) by ac_rfl)).drop⟩
  · rw [if_neg hz] at q
    exact False.elim q
theorem all1 {ts vs : List Nat} (h : ts.all (fun i => vs.contains i) = true) : ∀ i ∈ ts, i ∈ vs := fun i hi => List.contains_iff_mem.mp (List.all_eq_true.mp h i hi)
theorem all2 {ts : List Nat} {n : Nat} (h : ts.all (fun i => decide (i < n)) = true) : ∀ i ∈ ts, i < n := fun i hi => of_decide_eq_true (List.all_eq_true.mp h i hi)
theorem all3 {ts : List Nat} {g : Gj} (h : ts.all (fun i => !(g.io.map Prod.fst).contains i) = true) : ∀ i ∈ ts, okSlot g i := fun i hi => by
  have := List.all_eq_true.mp h i hi
  rw [Bool.not_eq_true'] at this
  exact this
theorem PE.impI {X : Cx} {e : Expr} {t t' : TE} (h : PE X e t) (k : ∀ σ H Q, σ.length = X.N.length → t' σ H Q → t σ H Q) : PE X e t' := ⟨fun pins s σ H Q I q => h.run pins s σ H Q I (k _ _ _ I.len q)⟩
theorem PS.impI {X : Cx} {e : Stmt} {t t' : TS} (h : PS X e t) (k : ∀ D σ H, σ.length = X.N.length → t' D σ H → t D σ H) : PS X e t' := ⟨fun pins s σ H D I q => h.run pins s σ H D I (k _ _ _ I.len q)⟩
theorem sf_lc {elt it : Expr} {ifs : List Expr} {scope : Scope} {own : List (Str × Nat)} {ts : List Nat} {mi : M (List D)} {mg : D → MS → Option MS} {mt : M Bool} {me : M D} (hc : X.calm = true) (hN : X.N.Nodup) (hi : SI X g W p tg it mi) (ok : BlkOk X.N X.env.scope scope own)
    (hg : ∀ (s : Shared) (H : Hp) (C : Addr) (cl : List (Str × Addr)) (fp : List Addr), SGc (X.blk s H scope (compEnvC scope cl C X.env) fp) g ts tg mg) (ht : ∀ (s : Shared) (H : Hp) (C : Addr) (cl : List (Str × Addr)) (fp : List Addr), STs (X.blk s H scope (compEnvC scope cl C X.env) fp) g ifs mt)
    (he : ∀ (s : Shared) (H : Hp) (C : Addr) (cl : List (Str × Addr)) (fp : List Addr), SE (X.blk s H scope (compEnvC scope cl C X.env) fp) g W0 .C true elt me)
    (hts' : ts.all (fun i => (own.map (·.2)).contains i) = true) (hvN' : (own.map (·.2)).all (fun i => decide (i < X.N.length)) = true) (hv' : (own.map (·.2)).all (fun i => !(g.io.map Prod.fst).contains i) = true) (hs : ∀ x, foldedSetIterable it X.env x = pure x := by intro _; rfl) :
    SE X g W .F p (.ListComp elt [⟨tg, it, ifs, 0⟩] scope pos) (mLc mi (own.map (·.2)) mg mt me) :=
  PE.impI (pe_lc hc hN hi ok hg ht he hs) fun σ H Q hσ h => lc_core (all1 hts') (all2 hvN') (all3 hv') (fun _ _ _ z => z) (fun _ _ _ _ z => z) (fun _ _ _ z => z) (fun _ _ _ z => z) σ H Q hσ h
theorem ss_setLc {i : Nat} {y : Str} {py spos : Pos} {elt it : Expr} {ifs : List Expr} {scope : Scope} {own : List (Str × Nat)} {ts : List Nat} {mi : M (List D)} {mg : D → MS → Option MS} {mt : M Bool} {me : M D} (hc : X.calm = true) (hN : X.N.Nodup) (hy : X.N[i]? = some y) (hyl : X.env.scope.names.lookup y = some .local) (hpi : okSlot g i)
    (hsw : swapsWith (.ListComp elt [⟨tg, it, ifs, 0⟩] scope pos) (some (.Name y py)) spos.line X.env = pure true) (hi : SI X g W p tg it mi) (ok : BlkOk X.N X.env.scope scope own)
    (hg : ∀ (s : Shared) (H : Hp) (C : Addr) (cl : List (Str × Addr)) (fp : List Addr), SGc (X.blk s H scope (compEnvC scope cl C X.env) fp) g ts tg mg) (ht : ∀ (s : Shared) (H : Hp) (C : Addr) (cl : List (Str × Addr)) (fp : List Addr), STs (X.blk s H scope (compEnvC scope cl C X.env) fp) g ifs mt)
    (he : ∀ (s : Shared) (H : Hp) (C : Addr) (cl : List (Str × Addr)) (fp : List Addr), SE (X.blk s H scope (compEnvC scope cl C X.env) fp) g W0 .C true elt me)
    (hts' : ts.all (fun i => (own.map (·.2)).contains i) = true) (hvN' : (own.map (·.2)).all (fun i => decide (i < X.N.length)) = true) (hv' : (own.map (·.2)).all (fun i => !(g.io.map Prod.fst).contains i) = true) (frzd : Bool) (hs : ∀ x, foldedSetIterable it X.env x = pure x := by intro _; rfl) :
    SS X g W (.Assign [.Name y py] (.ListComp elt [⟨tg, it, ifs, 0⟩] scope pos) spos) (mSet i (if frzd = true then mFrz (mLc mi (own.map (·.2)) mg mt me) else mLc mi (own.map (·.2)) mg mt me)) :=
  PS.impI (ps_setLc hc hN hy hyl hsw hi ok hg ht he hs) fun Dn σ H hσ h => by
    refine lc_core (p := p) (all1 hts') (all2 hvN') (all3 hv') (fun _ _ _ z => z) (fun _ _ _ _ z => z) (fun _ _ _ z => z) (fun _ _ _ z => z) σ H _ hσ ?_
    cases frzd with
    | false => exact set_core hpi h
    | true =>
      obtain ⟨n, pn, s, R, Mr, pr, q⟩ := set_core (p := p) hpi h
      refine ⟨n, pn, s, R, Mr, pr, Post.mono q fun d s' n' R' H' l ep rl q v o => ?_⟩
      obtain ⟨r, h1, h2⟩ := o
      obtain ⟨m', l', ew, h3, h4⟩ := h1.frz h2
      exact q m' R' H' (l.trans l') (fun z => ⟨ew.trans (ep z).1, (ep z).2⟩) (rl.mono l' ew) v (kCF ⟨h3, h4⟩)
end
end Mi

namespace Mi
open PySem PySem.Spec PyProof.Rows Hk
open L2 hiding Takes XE CX takes_of passes_call MkP PMk ps_raise mk_of ps_try_as passAt pmk_own
open L2N (Takes XE CX takes_of passes_call MkP PMk ps_raise mk_of ps_try_as passAt pmk_own)
section
variable {X : Cx} {g : Gj} {W : WX} {p pa pb : Bool} {a b e o tg : Expr} {es : List Expr} {ma mb m : M D} {ms : M (List D)} {pos q apos : Pos} {k : M Fl}
/-! ### globals, a slot that is frozen -/
theorem se_glob {x : Str} {d : D} {v : V} (h : GV X.mg x v) (hd : ∀ n : En, n.g = g.toGd → Enc n d v 0) (hg : Gl X x := by rfl) (hdb : (x == ("__debug__" : Str)) = false := by decide) : SE X g W .C true (.Name x pos) (mC d) :=
  PE.imp (pe_globV h hg hdb) fun σ H Q ⟨n, pn, s, R, Mr, pr, q⟩ => q n R H (En.le.refl n) (fun _ => ⟨rfl, rfl, rfl⟩) pr.2.1 v ⟨hd n pr.1.1, pr.2.2⟩
theorem se_globI {x : Str} {i : Int} (h : GV X.mg x (.int i)) (hg : Gl X x := by rfl) (hdb : (x == ("__debug__" : Str)) = false := by decide) : SE X g W .C true (.Name x pos) (mC (.int i)) := se_glob h (fun _ _ => ⟨rfl, rfl⟩) hg hdb
theorem se_globS {x : Str} {i : Str} (h : GV X.mg x (.str i)) (hg : Gl X x := by rfl) (hdb : (x == ("__debug__" : Str)) = false := by decide) : SE X g W .C true (.Name x pos) (mC (.str i)) := se_glob h (fun _ _ => ⟨rfl, rfl⟩) hg hdb
theorem RelS.take {n : En} {c : Ct} {s : MS} {σ : L2.St} {R : Rs} {i : Nat} {d : D} (h : RelS n c s σ R) (e : s.fr[i]? = some (some d)) :
    ∃ v ri rest, σ[i]? = some (some v) ∧ R = ri + rest ∧ Enc n d v ri ∧ ∀ m d' ri', n.le m → m.wa = n.wa → Enc m d' v ri' → RelS m c (setFr s i d') σ (ri' + rest) := by
  obtain ⟨rf, rw', er, h1, h2, h3, h4⟩ := h
  obtain ⟨v, ri, rest, e1, e2, x, k⟩ := h1.take i e
  refine ⟨v, ri, rest + rw', e1, by rw [er, e2]; ac_rfl, x, fun m d' ri' l w y => ⟨ri' + rest, rw', by ac_rfl, k m d' ri' l y, h2.mono l w, h3, ?_⟩⟩
  show PwOk m s.wd c.pw
  cases hc : c.pw with
  | none => trivial
  | some ww =>
    rw [hc] at h4
    exact ⟨h4.1, w.trans h4.2⟩
def mVarF (i : Nat) : M D := fun s => match s.fr[i]? with
  | some (some d) => .ok (frz d) (setFr s i (frz d))
  | _ => .bad
theorem se_varP {i : Nat} (h : PE X e (tVar i)) : SE X g W .E true e (mVar i) :=
  PE.imp h fun σ H Q ⟨n, pn, s, R, Mr, ⟨hg, rl, ok⟩, q⟩ => by
    unfold mVar at q
    cases hm : s.fr[i]? with
    | none => rw [hm] at q; exact False.elim q
    | some o =>
      cases o with
      | none => rw [hm] at q; exact False.elim q
      | some d =>
        rw [hm] at q
        obtain ⟨rf, rw', e, h1, h2, h3, h4⟩ := id rl
        obtain ⟨v, ri, e1, e2, e3⟩ := h1.get hm
        refine ⟨v, e1, q n R H (En.le.refl n) (fun _ => ⟨rfl, rfl, rfl⟩) rl v ⟨0, ri, e2, ?_, by rw [Rs.zero_add]; exact ok⟩⟩
        rw [Rs.zero_add, e]
        exact e3.addr _
theorem se_varF {i : Nat} (h : PE X e (tVar i)) : SE X g W .C false e (mVarF i) :=
  PE.imp h fun σ H Q ⟨n, pn, s, R, Mr, pr, q⟩ => by
    unfold mVarF at q
    cases hm : s.fr[i]? with
    | none => rw [hm] at q; exact False.elim q
    | some o =>
      cases o with
      | none => rw [hm] at q; exact False.elim q
      | some d =>
        rw [hm] at q
        obtain ⟨v, ri, rest, e1, er, x, k⟩ := pr.2.1.take hm
        have o := pr.2.2
        rw [er] at o
        obtain ⟨m', l', ew, h3, h4⟩ := x.frz (o.cast (show _ = ri + (rest + Mr) by ac_rfl))
        exact ⟨v, e1, q m' (0 + rest) H l' (fun z => absurd z Bool.false_ne_true) (k m' _ 0 l' ew h3) v ⟨h3, by rw [Rs.zero_add]; exact h4⟩⟩
/-- a slot's tree is taken out -/
def mVarM (i : Nat) : M D := fun s => match s.fr[i]? with
  | some (some d) => .ok d { s with fr := s.fr.set i none }
  | _ => .bad
theorem sf_varM {i : Nat} (h : PE X e (tVar i)) : SE X g W .F false e (mVarM i) :=
  PE.imp h fun σ H Q ⟨n, pn, s, R, Mr, pr, q⟩ => by
    unfold mVarM at q
    cases hm : s.fr[i]? with
    | none => rw [hm] at q; exact False.elim q
    | some o =>
      cases o with
      | none => rw [hm] at q; exact False.elim q
      | some d =>
        rw [hm] at q
        obtain ⟨rf, rw', er, h1, h2, h3, h4⟩ := pr.2.1
        obtain ⟨v, ri, rest, e1, e2, x, k⟩ := h1.out i hm
        have o := pr.2.2
        rw [er, e2] at o
        exact ⟨v, e1, q n (rest + rw') H (En.le.refl n) (fun z => absurd z Bool.false_ne_true) ⟨rest, rw', rfl, k, h2, h3, h4⟩ v ⟨ri, x, o.cast (by ac_rfl)⟩⟩
/-! ### a slot's list is changed -/
def MutS (g : Gd) (r : V → List V → Hp → VK → Prop) (f : List D → List D → Option (D × List D)) : Prop := ∀ (n : En) (ds : List D) (a : Addr) (vs : List V) (r' : Rs) (args : List D) (avs : List V) (T : Rs) (H : Hp) (Q : VK) (d : D) (ds' : List D), n.g = g →
  EncL n ds vs r' → EncL n args avs 0 → Ok n.B (Rs.one a (.lst vs) + r' + T) H → f ds args = some (d, ds') →
  (∀ n' v rn rl H', n.le n' → n'.wa = n.wa → Enc n' (.lst .o ds') (.ref a) rl → Enc n' d v rn → Ok n'.B (rn + (rl + T)) H' → Q v H') → r (.ref a) avs H Q
def isOwn (s : MS) (i : Nat) : Bool := match s.fr[i]? with
  | some (some (.lst .o _)) => true
  | _ => false
def mMut (i : Nat) (f : List D → List D → Option (D × List D)) (ms : M (List D)) : M D := fun s => if isOwn s i = true then (ms s).bind fun args s1 => (match s1.fr[i]? with
  | some (some (.lst .o ds)) => (match f ds args with
    | some (d, ds') => .ok d (setFr s1 i (.lst .o ds'))
    | none => .bad)
  | _ => .bad) else .bad
theorem isOwn_of {s : MS} {i : Nat} (h : isOwn s i = true) : ∃ ds, s.fr[i]? = some (some (.lst .o ds)) := by
  unfold isOwn at h
  split at h
  · rename_i ds e
    exact ⟨ds, e⟩
  · cases h
theorem mut_core {i : Nat} {r : V → List V → Hp → VK → Prop} {f : List D → List D → Option (D × List D)} {t : TA} (hf : MutS g.toGd r f) (ht : ∀ σ H Q, tA g W p ms σ H Q → t σ H Q) (hK : X.K = g.K) (σ : L2.St) (H : Hp) (Q : VK) (h : tE g W .F false (mMut i f ms) σ H Q) :
    (tVar i) σ H fun x H1 => tyV X.K "list" x H1 ∧ t σ H1 fun xs H2 => r x xs H2 Q := by
  obtain ⟨n, c, s, R, Mr, pr, q⟩ := h
  unfold mMut at q
  cases ho : isOwn s i with
  | false => rw [ho] at q; exact False.elim q
  | true =>
    rw [ho, if_pos rfl] at q
    obtain ⟨ds0, e0⟩ := isOwn_of ho
    obtain ⟨v, ri, rest, e1, er, x, _⟩ := pr.2.1.take e0
    obtain ⟨a, vs0, r0, rfl, rfl, hl0⟩ := x
    have eh : H a = some (.lst vs0) := pr.2.2.at ⟨r0 + rest + Mr, by rw [er]; ac_rfl⟩
    refine ⟨.ref a, e1, .inl ⟨rfl, vs0, .inl (.inl eh)⟩, ht σ H _ ⟨n, c, s, R, Mr, pr, ?_⟩⟩
    cases hm : ms s with
    | bad => rw [hm] at q; exact q
    | er e s' => rw [hm] at q; exact q
    | ok args s1 =>
      rw [hm, Rz.bind_ok] at q
      intro n1 R1 H1 l1 _ rl1 avs xa o1
      cases hs : s1.fr[i]? with
      | none => rw [hs] at q; exact False.elim q
      | some od =>
        rw [hs] at q
        cases od with
        | none => exact False.elim q
        | some d0 =>
          cases d0 <;> first | (exact False.elim q; done) | skip
          rename_i md ds
          cases md <;> first | (exact False.elim q; done) | skip
          dsimp only at q
          obtain ⟨v, ri, rest1, e2, er1, x1, k1⟩ := rl1.take hs
          rw [e1] at e2
          have ev := Option.some.inj (Option.some.inj e2)
          subst ev
          obtain ⟨a', vs, r', ea, rfl, hl⟩ := x1
          cases ea
          cases hfd : f ds args with
          | none => rw [hfd] at q; exact False.elim q
          | some pr' =>
            obtain ⟨d, ds'⟩ := pr'
            rw [hfd] at q
            dsimp only at q
            refine hf n1 ds a vs r' args avs (rest1 + Mr) H1 Q d ds' (pg l1 pr.1).1 hl xa (o1.cast (by rw [er1]; ac_rfl)) hfd fun n2 v rn rl H2 l2 w2 xl xd o2 => ?_
            exact q n2 (rl + rest1) H2 (l1.trans l2) (fun z => absurd z Bool.false_ne_true) (k1 n2 _ rl l2 w2 xl) v ⟨rn, xd, o2.cast (by ac_rfl)⟩
theorem sf_mut {i : Nat} {name : Str} {id : String} {f : List D → List D → Option (D × List D)} {r : V → List V → Hp → VK → Prop} {cpos : Pos} (hK : X.K = g.K) (hv : PE X o (tVar i)) (slot : Slot "list" name id) (hty : typeOf (.builtin id) = pure (.type "method_descriptor")) (hm : MtR X id r) (hf : MutS g.toGd r f)
    (ha : SA X g W p (e :: es) ms)
    (hbase : attributeBase o name X.env (eval o X.env) = eval o X.env := by rfl)
    (hfew : ((backTo cpos (starEach (e :: es) X.env)).all (fun x => !x.1) && (backToKw cpos (keywordEach [] X.env)).all (fun x => x.1.isSome)
      && decide ((e :: es).length + ([] : List Keyword).length + (if ([] : List Keyword).isEmpty then 0 else 1) < 30)) = true := by rfl)
    (hline : (apos.endLine == cpos.line) = true := by rfl) (hs : starEach (e :: es) X.env = (false, eval e X.env) :: starEach es X.env := by rfl) (hplain : (backTo cpos (starEach es X.env)).any (·.1) = false := by rfl) :
    SE X g W .F false (.Call (.Attribute o name apos) (e :: es) [] cpos) (mMut i f ms) :=
  PE.imp (pe_bm PySem.F.plainAttrs_list slot hty hm hv ha hbase hfew hline hs hplain) fun σ H Q h => mut_core hf (fun _ _ _ z => z) hK σ H Q h
theorem sf_mut0 {i : Nat} {name : Str} {id : String} {f : List D → List D → Option (D × List D)} {r : V → List V → Hp → VK → Prop} {cpos : Pos} (hK : X.K = g.K) (hv : PE X o (tVar i)) (slot : Slot "list" name id) (hty : typeOf (.builtin id) = pure (.type "method_descriptor")) (hm : MtR X id r) (hf : MutS g.toGd r f)
    (hbase : attributeBase o name X.env (eval o X.env) = eval o X.env := by rfl) (hline : (apos.endLine == cpos.line) = true := by rfl) :
    SE X g W .F false (.Call (.Attribute o name apos) [] [] cpos) (mMut i f mNil) :=
  PE.imp (pe_bm0 PySem.F.plainAttrs_list slot hty hm hv hbase hline) fun σ H Q h => mut_core (W := W) (p := true) (t := tNil) hf (fun σ H Q ⟨n, pn, s, R, Mr, pr, q⟩ => q n R H (En.le.refl n) (fun _ => ⟨rfl, rfl, rfl⟩) pr.2.1 [] ⟨rfl, rfl⟩ pr.2.2) hK σ H Q h
def fAppend : List D → List D → Option (D × List D)
  | ds, [y] => if ds.length < 16777216 then some (.non, ds ++ [y]) else none
  | _, _ => none
theorem m_append {g : Gd} : MutS g rAppend fAppend := by
  intro n ds a vs r' args avs T H Q d ds' hg hl ha o e q
  match args, ha, e with
  | [y], ha, e =>
    have e : (if ds.length < 16777216 then some (D.non, ds ++ [y]) else none) = some (d, ds') := e
    by_cases hz : ds.length < 16777216
    · rw [if_pos hz] at e
      cases e
      obtain ⟨v, rfl, xv⟩ := encL_1 ha
      refine ⟨a, vs, v, rfl, rfl, o.at ⟨r' + T, by ac_rfl⟩, by rw [hl.len, sizeLine_eq]; exact hz, ?_⟩
      refine q n .non 0 (Rs.one a (.lst (vs ++ [v])) + (r' + 0)) _ (En.le.refl n) rfl ⟨a, _, _, rfl, rfl, hl.app (EncL.one xv)⟩ ⟨rfl, rfl⟩ ?_
      rw [Rs.zero_add, Rs.add_zero]
      exact (Ok.put (o.cast (show _ = Rs.one a (.lst vs) + (r' + T) by ac_rfl))).cast (by ac_rfl)
    · rw [if_neg hz] at e; cases e
  | [], _, e => cases e
  | _ :: _ :: _, _, e => cases e
def fExtend : List D → List D → Option (D × List D)
  | ds, [y] => (match wr y with
    | some zs => if (cpL zs && decide (ds.length + zs.length ≤ 16777216)) = true then some (.non, ds ++ zs) else none
    | none => none)
  | _, _ => none
theorem m_extend {g : Gd} : MutS g rExtend fExtend := by
  intro n ds a vs r' args avs T H Q d ds' hg hl ha o e q
  match args, ha, e with
  | [y], ha, e =>
    obtain ⟨v, rfl, xv⟩ := encL_1 ha
    have e2 : (match wr y with
    | some zs => if (cpL zs && decide (ds.length + zs.length ≤ 16777216)) = true then some (D.non, ds ++ zs) else none
    | none => none) = some (d, ds') := e
    cases ew : wr y with
    | none => rw [ew] at e2; cases e2
    | some zs =>
      rw [ew] at e2
      dsimp only at e2
      obtain ⟨md, rfl, hm⟩ := wr_of ew
      cases hc : (cpL zs && decide (ds.length + zs.length ≤ 16777216)) with
      | false => rw [hc] at e2; cases e2
      | true =>
        rw [hc, if_pos rfl] at e2
        cases e2
        rw [Bool.and_eq_true] at hc
        obtain ⟨b, ws, r2, rfl, _, hl2, _, eb⟩ := xv.seq o (Sub.zero _)
        have z := hl2.cp hc.1
        subst z
        refine ⟨a, b, vs, ws, rfl, rfl, o.at ⟨r' + T, by ac_rfl⟩, eb hm, by rw [hl.len, hl2.len, sizeLine_eq]; exact of_decide_eq_true hc.2, ?_⟩
        refine q n .non 0 (Rs.one a (.lst (vs ++ ws)) + (r' + 0)) _ (En.le.refl n) rfl ⟨a, _, _, rfl, rfl, hl.app hl2⟩ ⟨rfl, rfl⟩ ?_
        rw [Rs.zero_add, Rs.add_zero]
        exact (Ok.put (o.cast (show _ = Rs.one a (.lst vs) + (r' + T) by ac_rfl))).cast (by ac_rfl)
  | [], _, e => cases e
  | _ :: _ :: _, _, e => cases e
/-! ### isinstance -/
def isiL : List ((String × String) × Bool) := [(("int", "int"), true), (("int", "bool"), true), (("int", "str"), false), (("int", "list"), false), (("int", "tuple"), false), (("int", "dict"), false), (("int", "NoneType"), false),
  (("bool", "int"), false), (("bool", "bool"), true), (("bool", "str"), false), (("bool", "list"), false), (("bool", "tuple"), false), (("bool", "dict"), false), (("bool", "NoneType"), false),
  (("str", "int"), false), (("str", "bool"), false), (("str", "str"), true), (("str", "list"), false), (("str", "tuple"), false), (("str", "dict"), false), (("str", "NoneType"), false),
  (("list", "int"), false), (("list", "bool"), false), (("list", "str"), false), (("list", "list"), true), (("list", "tuple"), false), (("list", "dict"), false), (("list", "NoneType"), false),
  (("tuple", "int"), false), (("tuple", "bool"), false), (("tuple", "str"), false), (("tuple", "list"), false), (("tuple", "tuple"), true), (("tuple", "dict"), false), (("tuple", "NoneType"), false),
  (("dict", "int"), false), (("dict", "bool"), false), (("dict", "str"), false), (("dict", "list"), false), (("dict", "tuple"), false), (("dict", "dict"), true), (("dict", "NoneType"), false)]
theorem isiL_ok : ∀ x ∈ isiL, kitB x.1.2 x.1.1 = some x.2 := by decide +kernel
def dIsi (n : String) (d : D) : Option D := (tyName d).bind fun t => (isiL.lookup (n, t)).map .bl
theorem lookup_mem {α β : Type} [BEq α] [LawfulBEq α] {k : α} {v : β} : ∀ {l : List (α × β)}, l.lookup k = some v → (k, v) ∈ l
  | (a, b) :: l, h => by
    rw [List.lookup_cons] at h
    cases e : (k == a) with
    | true =>
      rw [e] at h
      have := eq_of_beq e
      subst this
      cases h
      exact List.mem_cons_self
    | false =>
      rw [e] at h
      exact List.mem_cons_of_mem _ (lookup_mem h)
theorem tyName_ok {n : En} {d : D} {v : V} {r T : Rs} {H : Hp} {t : String} (x : Enc n d v r) (o : Ok n.B T H) (u : Sub r T) (e : tyName d = some t) : TyX n.g.K H v (.type t) := by
  cases d with
  | non => cases e; obtain ⟨rfl, _⟩ := x; exact .base .non
  | bl b => cases e; obtain ⟨rfl, _⟩ := x; exact .base (.bl b)
  | int i => cases e; obtain ⟨rfl, _⟩ := x; exact .base (.int i)
  | str z => cases e; obtain ⟨rfl, _⟩ := x; exact .base (.str z)
  | ty _ => cases e
  | tup ds =>
    cases e
    obtain ⟨a, vs, rfl, hq, _⟩ := x.tup o
    rcases hq with (z | ⟨oo, z⟩) | ⟨ob, its, k, z, zc, _⟩
    · exact .base (.tup z)
    · exact .fTuple z
    · exact .kTuple z zc
  | lst m ds =>
    cases e
    obtain ⟨a, vs, r', rfl, hq, _, _, _⟩ := x.seq o u
    rcases hq with (z | ⟨oo, z⟩) | ⟨ob, its, k, z, zc, _⟩
    · exact .base (.lst z)
    · exact .base (.frz z)
    · exact .kList z zc
  | dic m ks ds =>
    cases e
    obtain ⟨a, vs, r', rfl, eh, _⟩ := dic_at x o u
    exact .base (.dK eh)
  | fin _ _ _ => cases e
  | obj _ => cases e
theorem se_isi {x : Str} {n : String} {px p2 : Pos} (hK : X.K = g.K) (hg : Gl X "isinstance") (hm : X.mg "isinstance" = none) (ha : SE X g W .E p e m) (hx : PE X (.Name x p2) (tC (.ty n)))
    (he : starEach [e, .Name x p2] X.env = (false, eval e X.env) :: starEach [.Name x p2] X.env := by rfl) (he2 : starEach [.Name x p2] X.env = (false, eval (.Name x p2) X.env) :: starEach [] X.env := by rfl) (hpl : (backTo pos (starEach [.Name x p2] X.env)).any (·.1) = false := by rfl) :
    SE X g W .F p (.Call (.Name "isinstance" px) [e, .Name x p2] [] pos) (mUn (dIsi n) m) :=
  PE.imp (pe_callB (call_isiK' (K := g.K) hK) hg hm (by decide +kernel) (pa_cons ha (pa_cons hx pa_nil he2) he) (by decide) (by decide) he hpl) fun σ H Q h => un_core (r := fun v H1 Q => rIsi g.K [v, .ty n] H1 Q) (fun nn d1 v1 r1 d T H Q hg x u o e q => by
    unfold dIsi at e
    cases et : tyName d1 with
    | none => rw [et] at e; cases e
    | some t =>
      rw [et] at e
      have e : (isiL.lookup (n, t)).map D.bl = some d := e
      cases el : isiL.lookup (n, t) with
      | none => rw [el] at e; cases e
      | some b =>
        rw [el] at e
        cases e
        have hk : nn.g.K = g.K := by rw [hg]
        exact ⟨_, _, _, _, b, rfl, .ty n, hk ▸ tyName_ok x o u et, kit_ty (isiL_ok _ (lookup_mem el)), q.atom ⟨rfl, rfl⟩ o⟩) σ H Q h
end
end Mi

namespace Mi
open PySem PySem.Spec PyProof.Rows Hk
open L2 hiding Takes XE CX takes_of passes_call MkP PMk ps_raise mk_of ps_try_as passAt pmk_own
open L2N (Takes XE CX takes_of passes_call MkP PMk ps_raise mk_of ps_try_as passAt pmk_own)
section
variable {X : Cx} {g : Gj} {W : WX} {p pa pb : Bool} {a b e o tg : Expr} {es : List Expr} {ma mb m : M D} {ms : M (List D)} {pos q apos : Pos} {k : M Fl}
/-! ### try -/
def clr (s : MS) (i : Nat) : MS := { s with fr := s.fr.set i none }
/-- the suite of 'except c as n', n in slot i -/
def Gj.exc (g : Gj) (i : Nat) (a : Addr) : Gj := { g with io := (i, some (.ref a)) :: g.io }
def mTryAs (i : Nat) (sub : Str → Option Bool) (k : M Fl) (h : Exn → M Fl) : M Fl := fun s => match k s with
  | .er e s1 => (match sub e.c with
    | some true => if i < s1.fr.length then (match h e (clr s1 i) with
      | .ok f s2 => .ok f (clr s2 i)
      | _ => .bad) else .bad
    | some false => .er e s1
    | none => .bad)
  | r => r
theorem RelS.forget {n : En} {c : Ct} {s : MS} {σ : L2.St} {R : Rs} {i : Nat} (x : Option V) (h : RelS n c s σ R) (hp : i ∉ c.io.map Prod.fst) : ∃ R' old, RelS n c (clr s i) (σ.set i x) R' ∧ R = old + R' := by
  obtain ⟨rf, rw', er, h1, h2, h3, h4⟩ := h
  obtain ⟨r', old, h', e⟩ := h1.forget i x
  exact ⟨r' + rw', old, ⟨r', rw', rfl, h', h2, pin_set h3 hp, h4⟩, by rw [er, e, Rs.add_assoc]⟩
theorem RelS.unpin {n : En} {ct : Ct} {s : MS} {σ : L2.St} {R : Rs} {i : Nat} {a : Addr} (h : RelS n { ct with io := (i, some (.ref a)) :: ct.io, pn := (i, .ref a) :: ct.pn } s σ R) : RelS n ct s σ R := by
  obtain ⟨rf, rw', er, h1, h2, h3, h4⟩ := h
  refine ⟨rf, rw', er, h1, h2, ⟨fun q hq => h3.1 q (List.mem_cons_of_mem _ hq), ?_⟩, h4⟩
  obtain ⟨v, pn', e, _, h⟩ := h3.2
  cases e
  exact h
theorem try_core {c : Value} {i : Nat} {sub : Str → Option Bool} {h : Exn → M Fl} {ts : Addr → Value → Option Addr → TS} {Wout : WX} {Dn : Ends} {σ : L2.St} {H : Hp} (hp : okSlot g i)
    (hx : ∀ x b, sub x = some b → PySem.W.exmOne X.K (.ref (g.ca x)) c = some b)
    (hts : ∀ (a : Addr) (e : Exn) (Dn : Ends) (σ : L2.St) (H : Hp), tS (g.exc i a) W0 (h e) Dn σ H → ts a (.ref (g.ca e.c)) none Dn σ H) (q : tS g Wout (mTryAs i sub k h) Dn σ H) : tS g (wAs X.K c i ts Wout Dn) k Dn σ H := by
  obtain ⟨n, ct, s, R, Mr, pr, q⟩ := q
  refine ⟨n, ct, s, R, Mr, pr, ?_⟩
  unfold mTryAs at q
  cases hk : k s with
  | bad => rw [hk] at q; exact q
  | ok f s1 => rw [hk] at q; cases f <;> exact q
  | er e s1 =>
    rw [hk] at q
    dsimp only at q
    intro n1 R1 H1 σ1 l1 rl1 o1
    cases hs : sub e.c with
    | none => rw [hs] at q; exact False.elim q
    | some bb =>
      rw [hs] at q
      refine ⟨bb, hx _ _ hs, fun z a ha => ?_, fun z => ?_⟩
      · subst z
        dsimp only at q
        have hpi : i ∉ ct.io.map Prod.fst := by rw [pr.1.2]; exact hp.no
        obtain ⟨R', old, rl', er⟩ := rl1.forget (i := i) (some (.ref a)) hpi
        split at q
        · rename_i hln
          have hln' : i < σ1.length := by
            obtain ⟨rf, rw', _, h1, _, _, _⟩ := rl1
            rw [h1.len]
            exact hln
          have o2 : Ok n1.B (R' + Mr) H1 := by
            rw [er, Rs.add_assoc] at o1
            exact o1.drop
          refine hts a e _ (σ1.set i (some (.ref a))) H1 ⟨n1, { ct with io := (i, some (.ref a)) :: ct.io, pn := (i, .ref a) :: ct.pn }, clr s1 i, R', Mr, ⟨⟨(pg l1 pr.1).1, ?_⟩, ?_, o2⟩, ?_⟩
          · show (i, some (.ref a)) :: ct.io = (i, some (.ref a)) :: g.io
            rw [pr.1.2]
          · obtain ⟨rf, rw', er', h1, h2, h3, h4⟩ := rl'
            refine ⟨rf, rw', er', h1, h2, ⟨fun q hq => ?_, .ref a, ct.pn, rfl, (fun w hw => Option.some.inj hw), h3.2⟩, h4⟩
            rcases List.mem_cons.mp hq with rfl | hq
            · exact List.getElem?_set_self hln'
            · exact h3.1 q hq
          · have back : ∀ {n' : En} {s2 : MS} {σ' : L2.St} {R2 : Rs}, RelS n' { ct with io := (i, some (.ref a)) :: ct.io, pn := (i, .ref a) :: ct.pn } s2 σ' R2 → ∃ R3 old, RelS n' ct (clr s2 i) (σ'.set i none) R3 ∧ R2 = old + R3 := fun rl => rl.unpin.forget none hpi
            cases hh : h e (clr s1 i) with
            | bad => rw [hh] at q; exact False.elim q
            | er e' s2 => rw [hh] at q; exact False.elim q
            | ok f s2 =>
              rw [hh] at q
              dsimp only at q
              cases f with
              | nx =>
                intro n3 R3 H3 σ3 l3 rl3 o3
                obtain ⟨R4, old4, rl4, e4⟩ := back rl3
                rw [e4, Rs.add_assoc] at o3
                exact q n3 R4 H3 _ (l1.trans l3) rl4 o3.drop
              | bk =>
                intro n3 R3 H3 σ3 l3 rl3 o3
                obtain ⟨R4, old4, rl4, e4⟩ := back rl3
                rw [e4, Rs.add_assoc] at o3
                exact q n3 R4 H3 _ (l1.trans l3) rl4 o3.drop
              | ct =>
                intro n3 R3 H3 σ3 l3 rl3 o3
                obtain ⟨R4, old4, rl4, e4⟩ := back rl3
                rw [e4, Rs.add_assoc] at o3
                exact q n3 R4 H3 _ (l1.trans l3) rl4 o3.drop
              | rt d =>
                intro n3 R3 H3 σ3 v r l3 rl3 x3 o3
                obtain ⟨R4, old4, rl4, e4⟩ := back rl3
                rw [e4] at o3
                exact q n3 R4 H3 _ v r (l1.trans l3) rl4 x3 ((o3.cast (show _ = old4 + (r + (R4 + Mr)) by ac_rfl)).drop)
        · exact False.elim q
      · subst z
        exact q n1 R1 H1 σ1 l1 rl1 o1
theorem ss_try_as {x n : Str} {c : Value} {i : Nat} {body suite : List Stmt} {b₀ : Stmt} {np pos' : Pos} {sub : Str → Option Bool} {h : Exn → M Fl} (hs : X.stack = X.env :: X.outer) (hf : X.env.frame = some X.env.locals) (hN : X.N.Nodup) (hi : X.N[i]? = some n) (hln : X.env.kindOf n = some .local) (hc : Names X x c) (tk : Takes X W)
    (hp : okSlot g i) (hx : ∀ x b, sub x = some b → PySem.W.exmOne X.K (.ref (g.ca x)) c = some b)
    (hb : ∀ (W' : WX) (pn : List (Addr × Obj)) (xe : Value → Shared → Prop), Takes (X.tr pn xe) W' → PassesOwn (model X.prog X.w) X.A X.env xe → SSs (X.tr pn xe) g W' body k)
    (hsu : ∀ (a : Addr) (oe : Obj) (pn : List (Addr × Obj)) (e : Exn), L2N.Zn (.ref (g.ca e.c)) none oe → (∃ vs, oe.data = .fields vs) → SSs (X.suite a ((a, oe) :: pn)) (g.exc i a) W0 (b₀ :: suite) (h e)) :
    SS X g W (.Try body [.ExceptHandler (some (.Name x np)) (some n) (b₀ :: suite) pos'] [] [] pos) (mTryAs i sub k h) :=
  PS.imp (ps_try_as (ts := fun a cls d Dn σ H => ∃ e : Exn, cls = .ref (g.ca e.c) ∧ d = none ∧ tS (g.exc i a) W0 (h e) Dn σ H) (tb := fun W' => tS g W' k) hs hf hN hi hln hc tk (fun W' pn xe tk po => hb W' pn xe tk po)
    (fun a oe cls d pn hz hfd => ⟨fun pins s σ H Dn I ⟨e, e1, e2, q⟩ => by
      subst e1 e2
      exact (hsu a oe pn e hz hfd).run pins s σ H Dn I q⟩)) fun Dn σ H q => try_core hp hx (fun a e Dn σ H q => ⟨e, rfl, rfl, q⟩) q
/-! without a name -/
def mTryO (sub : Str → Option Bool) (k h : M Fl) : M Fl := fun s => match k s with
  | .er e s1 => (match sub e.c with
    | some true => (match h s1 with
      | .ok f s2 => .ok f s2
      | _ => .bad)
    | some false => .er e s1
    | none => .bad)
  | r => r
theorem se_isE {X0 : Cx} {a : Addr} {oe : Obj} {pn : List (Addr × Obj)} {i : Nat} {n x : Str} {C : Addr} {e : Exn} {kit : Str → Option Bool} {px py p2 : Pos} (hK : X0.K = g.K) (hz : L2N.Zn (.ref (g.ca e.c)) none oe) (hf : ∃ vs, oe.data = .fields vs) (hN : X0.N[i]? = some n) (hv : Vis X0.env.scope n) (hio : (i, some (.ref a)) ∈ g.io)
    (hE : ∀ y b, kit y = some b → ExcC X0.K (g.ca y) ∧ PySem.W.kitOne X0.K (.ref (g.ca y)) (.ref C) = some b) (hg : Gl X0 "isinstance") (hm : X0.mg "isinstance" = none) (hC : X0.mg x = some (.ref C)) (hgx : Gl X0 x := by rfl) (hdx : (x == ("__debug__" : Str)) = false := by decide)
    (hd : (n == ("__debug__" : Str)) = false := by decide) (hcd : (n == ("__classdict__" : Str)) = false := by decide)
    (he : starEach [.Name n py, .Name x p2] X0.env = (false, eval (.Name n py) X0.env) :: starEach [.Name x p2] X0.env := by rfl) (he2 : starEach [.Name x p2] X0.env = (false, eval (.Name x p2) X0.env) :: starEach [] X0.env := by rfl) (hpl : (backTo pos (starEach [.Name x p2] X0.env)).any (·.1) = false := by rfl) :
    SE (X0.suite a ((a, oe) :: pn)) g W .C true (.Call (.Name "isinstance" px) [.Name n py, .Name x p2] [] pos) (fun s => mOpt ((kit e.c).map .bl) s) :=
  PE.imp (pe_callB (X := X0.suite a ((a, oe) :: pn)) (call_isE2 hz.zc hf) hg hm (by decide +kernel) (pa_cons (X := X0.suite a ((a, oe) :: pn)) (pe_var (X := X0.suite a ((a, oe) :: pn)) (i := i) hN hv hd hcd) (pa_cons (X := X0.suite a ((a, oe) :: pn)) (pe_globV (X := X0.suite a ((a, oe) :: pn)) (gv_ref hC) hgx hdx) pa_nil he2) he) (by decide) (by decide) he hpl) fun σ H Q ⟨nn, pn', s, R, Mr, pr, q⟩ => by
    obtain ⟨rf, rw', er, h1, h2, h3, h4⟩ := id pr.2.1
    have hp := h3.1 _ (h3.2.val (by rw [pr.1.2]; exact hio))
    refine ⟨.ref a, hp, ?_⟩
    cases hk : kit e.c with
    | none => rw [hk] at q; exact False.elim q
    | some b =>
      rw [hk] at q
      obtain ⟨k1, k2⟩ := hE _ _ hk
      exact isE_of k1 k2 (q nn R H (En.le.refl nn) (fun _ => ⟨rfl, rfl, rfl⟩) pr.2.1 _ ⟨⟨rfl, rfl⟩, pr.2.2⟩)
end
end Mi

namespace Mi
open PySem PySem.Spec PyProof.Rows Hk RT
open L2 hiding Takes XE CX takes_of passes_call MkP PMk ps_raise mk_of ps_try_as passAt pmk_own
open L2N (Takes XE CX takes_of passes_call MkP PMk ps_raise mk_of ps_try_as passAt pmk_own)
def mTrue : M Bool := fun s => .ok true s
def mKit (kit : Str → Option Bool) (e : Exn) : M D := fun s => mOpt ((kit e.c).map .bl) s
def dNotT (d : D) : Option D := (tru d).map fun c => .bl (!c)
section
variable {X : Cx} {g : Gj} {W : WX} {p pa pb pc : Bool} {a b c e o tg : Expr} {es : List Expr} {ma mb mc m : M D} {ms : M (List D)} {pos q apos : Pos} {k : M Fl}
theorem sl_tupAK {K : PySem.W.Frag} (hK : X.K = K := by rfl) : SlR X (rSlA K) := by subst hK; exact sl_tupA
/-! ### chains -/
def mChain (f f' : D → D → Option D) (ma mb mc : M D) : M D := fun s => (ma s).bind fun d1 s1 => (mb s1).bind fun d2 s2 => match f d1 d2 with
  | some (.bl true) => (mc s2).bind fun d3 s3 => mOpt (f' d2 d3) s3
  | some (.bl false) => .ok (.bl false) s2
  | _ => .bad
theorem chain_core {r r' : R2} {f f' : D → D → Option D} (hf : OpS g.toGd r f) (hf' : OpS g.toGd r' f') (σ : L2.St) (H : Hp) (Q : VK) (h : tE g W .F (pa && (pb && pc)) (mChain f f' ma mb mc) σ H Q) :
    tChain r r' (tE g W .C pa ma) (tE g W .C pb mb) (tE g W .C pc mc) σ H Q := by
  obtain ⟨n, pn, s, R, Mr, pr, q⟩ := h
  unfold mChain at q
  refine ⟨n, pn, s, R, Mr, pr, ?_⟩
  cases hm : ma s with
  | bad => rw [hm] at q; exact q
  | er e s' => rw [hm] at q; exact q
  | ok d1 s1 =>
    rw [hm, Rz.bind_ok] at q
    intro n1 R1 H1 l1 e1 rl1 v1 o1
    refine ⟨n1, pn, s1, R1, Mr, ⟨pg l1 pr.1, rl1, o1.2⟩, ?_⟩
    cases hm2 : mb s1 with
    | bad => rw [hm2] at q; exact q
    | er e s' => rw [hm2] at q; exact fun n2 R2 H2 l2 r2 o2 => q n2 R2 H2 (l1.trans l2) r2 o2
    | ok d2 s2 =>
      rw [hm2, Rz.bind_ok] at q
      intro n2 R2 H2 l2 e2 rl2 v2 o2
      have pp : ∀ {pz : Bool}, (pa && (pb && pz)) = true → n2.wa = n.wa ∧ R2 = R ∧ s2 = s := fun z => by
        rw [Bool.and_eq_true, Bool.and_eq_true] at z
        obtain ⟨a1, a2, a3⟩ := e1 z.1
        obtain ⟨b1, b2, b3⟩ := e2 z.2.1
        exact ⟨b1.trans a1, b2.trans a2, b3.trans a3⟩
      cases hfd : f d1 d2 with
      | none => rw [hfd] at q; exact False.elim q
      | some dz =>
        rw [hfd] at q
        cases dz <;> first | (exact False.elim q; done) | skip
        rename_i bb
        refine hf n2 d1 v1 0 d2 v2 0 (.bl bb) (R2 + Mr) H2 _ (pg l2 (pg l1 pr.1)).1 (o1.1.mono l2) o2.1 (Sub.zero _) (Sub.zero _) o2.2 hfd fun n3 v rn H3 l3 w3 x o3 => ?_
        obtain ⟨rfl, rfl⟩ := x
        rw [Rs.zero_add] at o3
        refine ⟨bb, rfl, ?_⟩
        cases bb with
        | false => exact q n3 R2 H3 ((l1.trans l2).trans l3) (fun z => ⟨w3.trans (pp z).1, (pp z).2⟩) (rl2.mono l3 w3) _ ⟨0, ⟨rfl, rfl⟩, by rw [Rs.zero_add]; exact o3⟩
        | true =>
          dsimp only at q
          rw [if_pos rfl]
          refine ⟨n3, pn, s2, R2, Mr, ⟨pg l3 (pg l2 (pg l1 pr.1)), rl2.mono l3 w3, o3⟩, ?_⟩
          cases hm3 : mc s2 with
          | bad => rw [hm3] at q; exact q
          | er e s' => rw [hm3] at q; exact fun n4 R4 H4 l4 r4 o4 => q n4 R4 H4 (((l1.trans l2).trans l3).trans l4) r4 o4
          | ok d3 s3 =>
            rw [hm3, Rz.bind_ok] at q
            intro n4 R4 H4 l4 e4 rl4 v4 o4
            cases hfd' : f' d2 d3 with
            | none => rw [hfd'] at q; exact False.elim q
            | some d =>
              rw [hfd'] at q
              refine hf' n4 d2 v2 0 d3 v4 0 d (R4 + Mr) H4 Q (pg l4 (pg l3 (pg l2 (pg l1 pr.1)))).1 ((o2.1.mono l3).mono l4) o4.1 (Sub.zero _) (Sub.zero _) o4.2 hfd' fun n5 v rn H5 l5 w5 x o5 => ?_
              refine q n5 R4 H5 ((((l1.trans l2).trans l3).trans l4).trans l5) (fun z => ?_) (rl4.mono l5 w5) v ⟨rn, x, o5⟩
              have z' := z
              rw [Bool.and_eq_true, Bool.and_eq_true] at z'
              obtain ⟨a1, a2, a3⟩ := e4 z'.2.2
              obtain ⟨b1, b2, b3⟩ := pp z
              exact ⟨w5.trans (a1.trans (w3.trans b1)), a2.trans b2, a3.trans b3⟩
theorem sf_chain {op op' : CmpOp} {r r' : R2} {f f' : D → D → Option D} (ho : OpR X (compareOp op) r) (hf : OpS g.toGd r f) (ho' : OpR X (compareOp op') r') (hf' : OpS g.toGd r' f') (ha : SE X g W .C pa a ma) (hb : SE X g W .C pb b mb) (hc : SE X g W .C pc c mc)
    (hm : lastMarks [op, op'] [b, c] = false := by with_unfolding_all rfl) : SE X g W .F (pa && (pb && pc)) (.Compare a [op, op'] [b, c] pos) (mChain f f' ma mb mc) :=
  PE.imp (pe_chain ho ho' ha hb hc hm) fun σ H Q h => chain_core hf hf' σ H Q h
theorem st_chain {op op' : CmpOp} {r r' : R2} {f f' : D → D → Option D} (ho : OpR X (compareOp op) r) (hf : OpS g.toGd r f) (ho' : OpR X (compareOp op') r') (hf' : OpS g.toGd r' f') (ha : SE X g W .C pa a ma) (hb : SE X g W .C pb b mb) (hc : SE X g W .C pc c mc)
    (hm : lastMarks [op, op'] [b, c] = false := by with_unfolding_all rfl) : ST X g W (pa && (pb && pc)) (.Compare a [op, op'] [b, c] pos) (mB (mChain f f' ma mb mc)) :=
  PT.imp (pt_chain ho ho' ha hb hc hm) fun σ H Q h => by
    refine chain_core (pa := pa) (pb := pb) (pc := pc) hf hf' σ H _ ?_
    obtain ⟨n, pn, s, R, Mr, pr, q⟩ := h
    refine ⟨n, pn, s, R, Mr, pr, Post.mono q fun d s' n' R' H' l ep rl q v o => ?_⟩
    obtain ⟨r, x, o⟩ := o
    cases d <;> first | (exact False.elim q; done) | skip
    obtain ⟨rfl, rfl⟩ := x
    exact ⟨_, rfl, q n' R' H' l ep rl o.drop⟩
/-! ### join -/
def strsD : List D → Option (List Str)
  | [] => some []
  | .str z :: ds => (strsD ds).map fun zs => z :: zs
  | _ :: _ => none
theorem strs_enc {n : En} : ∀ {ds : List D} {is : List Str} {vs : List V} {r : Rs}, strsD ds = some is → EncL n ds vs r → vs = is.map V.str
  | [], _, _, _, e, h => by cases e; exact h.1
  | d :: ds, _, _, _, e, h => by
    obtain ⟨v, vs', r1, r2, rfl, rfl, h1, h2⟩ := h
    cases d <;> first | (cases e; done) | skip
    rename_i i
    have e : (strsD ds).map (fun is => i :: is) = some _ := e
    cases ed : strsD ds with
    | none => rw [ed] at e; cases e
    | some js =>
      rw [ed] at e
      cases e
      obtain ⟨rfl, _⟩ := h1
      rw [strs_enc ed h2]
      rfl
def dJoin (z : Str) : D → Option D
  | .lst _ ds => (strsD ds).bind fun ys => if (ys.map (·.length)).sum + ys.length * z.length ≤ 16777216 then some (.str (Txt.join z ys)) else none
  | _ => none
theorem sf_join {z : Str} {j : Nat} {p2 : Pos} (hK : X.K = g.K) (hb : SE X g W .E pb b mb) (hs : starEach [b] X.env = [(false, eval b X.env)] := by rfl) (hbase : attributeBase (.Constant (.str z) j p2) "join" X.env (eval (.Constant (.str z) j p2) X.env) = eval (.Constant (.str z) j p2) X.env := by rfl) (hline : (apos.endLine == pos.line) = true := by rfl) :
    SE X g W .F pb (.Call (.Attribute (.Constant (.str z) j p2) "join" apos) [b] [] pos) (mUn (dJoin z) mb) :=
  PE.imp (pe_join pe_str hb hs hbase hline) fun σ H Q h => ⟨⟨z, rfl⟩, un_core (r := fun v H Q => ∃ a p, ∃ ys : List Str, V.str z = .str a ∧ [v] = [.ref p] ∧ (SqL X.K H p (ys.map V.str) ∨ SqT X.K H p (ys.map V.str)) ∧
      (ys.map (·.length)).sum + ys.length * a.length ≤ 16777216 ∧ Q (.str (Txt.join a ys)) H) (fun n d1 v1 r1 d T H Q hg x u o e q => by
    have hk : n.g.K = X.K := by rw [hg, hK]
    cases d1 <;> first | (cases e; done) | skip
    rename_i m ds
    have e : (strsD ds).bind (fun ys => if (ys.map (·.length)).sum + ys.length * z.length ≤ 16777216 then some (D.str (Txt.join z ys)) else none) = some d := e
    cases es : strsD ds with
    | none => rw [es] at e; cases e
    | some ys =>
      rw [es] at e
      have e : (if (ys.map (·.length)).sum + ys.length * z.length ≤ 16777216 then some (D.str (Txt.join z ys)) else none) = some d := e
      obtain ⟨a, vs, r', rfl, hq, hl, _, _⟩ := x.seq o u
      by_cases hz : (ys.map (·.length)).sum + ys.length * z.length ≤ 16777216
      · rw [if_pos hz] at e
        cases e
        rw [strs_enc es hl, hk] at hq
        exact ⟨z, a, ys, rfl, rfl, .inl hq, hz, q.atom ⟨rfl, rfl⟩ o⟩
      · rw [if_neg hz] at e; cases e) σ H Q h⟩
/-! ### enumerate, zip, reversed -/
def enumD : Nat → List D → List D
  | _, [] => []
  | i, d :: ds => .tup [.int (i : Nat), d] :: enumD (i + 1) ds
theorem enumD_get : ∀ {ds : List D} {k i : Nat} {d : D}, (enumD k ds)[i]? = some d → ∃ x, ds[i]? = some x ∧ d = .tup [.int ((k + i : Nat) : Int), x]
  | [], _, _, _, h => by simp [enumD] at h
  | x :: ds, k, 0, d, h => ⟨x, rfl, (Option.some.inj h).symm⟩
  | x :: ds, k, i + 1, d, h => by
    obtain ⟨y, e1, e2⟩ := enumD_get (ds := ds) (k := k + 1) (i := i) h
    exact ⟨y, e1, by rw [e2]; congr 4; omega⟩
theorem enumD_len : ∀ {ds : List D} {k : Nat}, (enumD k ds).length = ds.length
  | [], _ => rfl
  | x :: ds, k => by show (enumD (k + 1) ds).length + 1 = _; rw [enumD_len]; rfl
def dItE : D → Option (List D)
  | .lst _ ds => if cpL ds = true then some (enumD 0 ds) else none
  | _ => none
theorem newTup {n : En} {T : Addr} {vs : List V} {ds : List D} {Rest : Rs} {H : Hp} (h : EncL n ds vs 0) (o : Ok n.B Rest H) (hT : H T = none) : ∃ n', n.le n' ∧ n'.wa = n.wa ∧ Enc n' (.tup ds) (.ref T) 0 ∧ Ok n'.B Rest (upd H T (.tup vs)) := by
  have o1 := o.add (o := .tup vs) hT
  have l : n.le (n.put T (.tup vs)) := ⟨rfl, List.prefix_refl _, o1.frzSame⟩
  exact ⟨n.put T (.tup vs), l, rfl, ⟨rfl, T, vs, rfl, .inl (.inl upd_same), h.mono l⟩, o1.freeze⟩
theorem encL_two {n : En} {d e : D} {v w : V} (h1 : Enc n d v 0) (h2 : Enc n e w 0) : EncL n [d, e] [v, w] 0 := ⟨v, [w], 0, 0, rfl, (Rs.zero_add 0).symm, h1, EncL.one h2⟩
theorem si_enum {elts : List Expr} {kk : Nat} {tpos : Pos} (hK : X.K = g.K) (hg : Gl X "enumerate") (hm : X.mg "enumerate" = none) (ha : SE X g W .F p e m) (hs : starEach [e] X.env = [(false, eval e X.env)] := by rfl) (hs2 : starEach [e] X.env = (false, eval e X.env) :: starEach [] X.env := by rfl) :
    SI X g W p (.Tuple elts kk tpos) (.Call (.Name "enumerate" q) [e] [] pos) (mIt dItE m) :=
  PI.imp (pi_enum hg hm (pa_cons ha pa_nil hs2) hs) fun σ H Rk h => it_core (r := fun v H1 R => ∃ a xs, [v] = [V.ref a] ∧ SqL X.K H1 a xs ∧ R (Ite X.K a) H1) (fun n d v rr ds T H Rk hg x o e q => by
    have hk : n.g.K = X.K := by rw [hg, hK]
    cases d <;> first | (cases e; done) | skip
    rename_i md xs
    have e : (if cpL xs = true then some (enumD 0 xs) else none) = some ds := e
    cases c : cpL xs with
    | false => rw [c] at e; cases e
    | true =>
      rw [c, if_pos rfl] at e
      cases e
      obtain ⟨a, vs, r', rfl, hl, _, st⟩ := x.seqS
      have z := hl.cp c
      subst z
      rw [hk] at st
      refine ⟨a, vs, rfl, st n _ H (En.le.refl n) o ⟨T, rfl⟩, q _ fun n' H' Rest l o' u i => ?_⟩
      have hq' := st n' _ H' l o' u
      refine ⟨fun d ed => ?_, fun hi => ⟨vs, hq', by rw [hl.len]; rw [enumD_len] at hi; exact hi⟩⟩
      obtain ⟨y, ey, rfl⟩ := enumD_get ed
      have hlt : i < vs.length := by rw [hl.len]; exact (List.getElem?_eq_some_iff.mp ey).1
      refine ⟨⟨vs, vs[i], hq', List.getElem?_eq_getElem hlt⟩, fun x2 H2 y2 => ?_⟩
      obtain ⟨TT, x3, rfl, hT, rfl, hx3⟩ := y2
      obtain ⟨n2, l2, w2, x4, o4⟩ := newTup (encL_two (d := .int ((0 + i : Nat) : Int)) (v := .int (i : Nat)) ⟨by rw [Nat.zero_add], rfl⟩ ((encL_ix hl ey (hx3 vs hq')).mono l)) o' hT
      exact ⟨n2, l2, w2, x4, o4⟩) σ H Rk h
def dItR : D → Option (List D)
  | .lst _ ds => if cpL ds = true then some ds.reverse else none
  | .tup ds => some ds.reverse
  | _ => none
theorem rev_get {α : Type} {ds : List α} {i : Nat} {d : α} (h : ds.reverse[i]? = some d) : i < ds.length ∧ ds[ds.length - 1 - i]? = some d := by
  have hlt := (List.getElem?_eq_some_iff.mp h).1
  rw [List.length_reverse] at hlt
  rw [List.getElem?_reverse hlt] at h
  exact ⟨hlt, h⟩
theorem si_rev (hK : X.K = g.K) (hg : Gl X "reversed") (hm : X.mg "reversed" = none) (ha : SE X g W .F p e m) (hs : starEach [e] X.env = (false, eval e X.env) :: starEach [] X.env := by rfl) : SI X g W p tg (.Call (.Name "reversed" q) [e] [] pos) (mIt dItR m) :=
  PI.imp (pi_revA hg hm ha hs) fun σ H Rk h => it_core (r := fun v H1 R => ∃ (a : Addr) (xs : List V), v = .ref a ∧ ((SqL X.K H1 a xs ∧ R (Itv X.K a xs.length) H1) ∨ (SqT X.K H1 a xs ∧ R (ItvT X.K a xs.length) H1))) (fun n d v rr ds T H Rk hg x o e q => by
    have hk : n.g.K = X.K := by rw [hg, hK]
    cases d <;> first | (cases e; done) | skip
    · rename_i xs
      cases e
      obtain ⟨rfl, a, vs, rfl, hl, st⟩ := x.tupS
      rw [hk] at st
      refine ⟨a, vs, rfl, .inr ⟨st n _ H (En.le.refl n) o, q _ fun n' H' Rest l o' u i => ?_⟩⟩
      have hq' := st n' _ H' l o'
      refine ⟨fun d ed => ?_, fun hi => ?_⟩
      · obtain ⟨hlt, ey⟩ := rev_get ed
        rw [← hl.len] at hlt ey
        have hlt2 : vs.length - 1 - i < vs.length := by omega
        refine ⟨⟨hlt, vs, vs[vs.length - 1 - i], hq', List.getElem?_eq_getElem hlt2⟩, fun x2 H2 y2 => ?_⟩
        obtain ⟨rfl, hx⟩ := y2
        exact ⟨n', En.le.refl n', rfl, (encL_ix hl ey (hx vs hq')).mono l, o'⟩
      · rw [List.length_reverse] at hi
        show vs.length ≤ i
        rw [hl.len]
        exact hi
    · rename_i md xs
      have e : (if cpL xs = true then some xs.reverse else none) = some ds := e
      cases c : cpL xs with
      | false => rw [c] at e; cases e
      | true =>
        rw [c, if_pos rfl] at e
        cases e
        obtain ⟨a, vs, r', rfl, hl, _, st⟩ := x.seqS
        have z := hl.cp c
        subst z
        rw [hk] at st
        refine ⟨a, vs, rfl, .inl ⟨st n _ H (En.le.refl n) o ⟨T, rfl⟩, q _ fun n' H' Rest l o' u i => ?_⟩⟩
        have hq' := st n' _ H' l o' u
        refine ⟨fun d ed => ?_, fun hi => ?_⟩
        · obtain ⟨hlt, ey⟩ := rev_get ed
          rw [← hl.len] at hlt ey
          have hlt2 : vs.length - 1 - i < vs.length := by omega
          refine ⟨⟨hlt, vs, vs[vs.length - 1 - i], hq', List.getElem?_eq_getElem hlt2⟩, fun x2 H2 y2 => ?_⟩
          obtain ⟨rfl, hx⟩ := y2
          exact ⟨n', En.le.refl n', rfl, (encL_ix hl ey (hx vs hq')).mono l, o'⟩
        · rw [List.length_reverse] at hi
          show vs.length ≤ i
          rw [hl.len]
          exact hi) σ H Rk h
end
end Mi

namespace Mi
open PySem PySem.Spec PyProof.Rows Hk
open L2 hiding Takes XE CX takes_of passes_call MkP PMk ps_raise mk_of ps_try_as passAt pmk_own
open L2N (Takes XE CX takes_of passes_call MkP PMk ps_raise mk_of ps_try_as passAt pmk_own)
/-! ## objects -/
def look (f : Str) : List Str → List D → Option D
  | n :: ns, d :: ds => if (f == n) = true then some d else look f ns ds
  | _, _ => none
theorem look_ok {n : En} {f : Str} : ∀ {ns : List Str} {ds : List D} {vs : List V} {r : Rs} {d : D}, EncL n ds vs r → look f ns ds = some d →
    ∃ v ri rest, (ns.zip vs).lookup f = some v ∧ Enc n d v ri ∧ r = ri + rest
  | [], ds, _, _, _, _, e => by cases ds <;> cases e
  | x :: ns, [], _, _, _, _, e => by cases e
  | x :: ns, d0 :: ds, _, _, d, h, e => by
    obtain ⟨v, vs', r1, r2, rfl, rfl, h1, h2⟩ := h
    have e : (if (f == x) = true then some d0 else look f ns ds) = some d := e
    rw [List.zip_cons_cons, List.lookup_cons]
    cases c : (f == x) with
    | true =>
      rw [c, if_pos rfl] at e
      cases e
      exact ⟨v, r1, r2, rfl, h1, rfl⟩
    | false =>
      rw [c, if_neg Bool.false_ne_true] at e
      obtain ⟨w, ri, rest, e1, e2, rfl⟩ := look_ok h2 e
      exact ⟨w, ri, r1 + rest, e1, e2, by ac_rfl⟩
/-- the field f has another tree at the same place -/
def edit (f : Str) (d' : D) : List Str → List D → List D
  | n :: ns, d :: ds => if (f == n) = true then d' :: ds else d :: edit f d' ns ds
  | _, ds => ds
theorem edit_ok {n : En} {f : Str} : ∀ {ns : List Str} {ds : List D} {vs : List V} {r : Rs} {d : D}, EncL n ds vs r → look f ns ds = some d →
    ∃ v ri rest, (ns.zip vs).lookup f = some v ∧ Enc n d v ri ∧ r = ri + rest ∧ ∀ m d' ri', n.le m → Enc m d' v ri' → EncL m (edit f d' ns ds) vs (ri' + rest)
  | [], ds, _, _, _, _, e => by cases ds <;> cases e
  | x :: ns, [], _, _, _, _, e => by cases e
  | x :: ns, d0 :: ds, _, _, d, h, e => by
    obtain ⟨v, vs', r1, r2, rfl, rfl, h1, h2⟩ := h
    have e : (if (f == x) = true then some d0 else look f ns ds) = some d := e
    rw [List.zip_cons_cons, List.lookup_cons]
    cases c : (f == x) with
    | true =>
      rw [c, if_pos rfl] at e
      cases e
      refine ⟨v, r1, r2, rfl, h1, rfl, fun m d' ri' l x' => ?_⟩
      show EncL m (if (f == x) = true then d' :: ds else d0 :: edit f d' ns ds) _ _
      rw [c, if_pos rfl]
      exact ⟨v, vs', ri', r2, rfl, rfl, x', h2.mono l⟩
    | false =>
      rw [c, if_neg Bool.false_ne_true] at e
      obtain ⟨w, ri, rest, e1, e2, rfl, k⟩ := edit_ok h2 e
      refine ⟨w, ri, r1 + rest, e1, e2, by ac_rfl, fun m d' ri' l x' => ?_⟩
      show EncL m (if (f == x) = true then d' :: ds else d0 :: edit f d' ns ds) _ _
      rw [c, if_neg Bool.false_ne_true]
      exact ⟨v, vs', r1, ri' + rest, rfl, by ac_rfl, h1.mono l, k m d' ri' l x'⟩
theorem edit_len {f : Str} {d' : D} : ∀ {ns : List Str} {ds : List D}, (edit f d' ns ds).length = ds.length
  | [], ds => by cases ds <;> rfl
  | x :: ns, [] => rfl
  | x :: ns, d :: ds => by
    show (if (f == x) = true then d' :: ds else d :: edit f d' ns ds).length = _
    split
    · rfl
    · rw [List.length_cons, edit_len, List.length_cons]
/-- o.f = d -/
def putNs (f : Str) : List Str → List Str
  | [] => [f]
  | n :: ns => if (f == n) = true then n :: ns else n :: putNs f ns
def putDs (f : Str) (d : D) : List Str → List D → List D
  | [], ds => ds ++ [d]
  | n :: ns, e :: ds => if (f == n) = true then d :: ds else e :: putDs f d ns ds
  | _ :: _, [] => []
theorem put_ok {n : En} {f : Str} {d : D} {v : V} {rv : Rs} (hx : Enc n d v rv) : ∀ {ns : List Str} {ds : List D} {vs : List V} {r : Rs}, EncL n ds vs r → ns.length = ds.length →
    ∃ vs' r' old, putF f v (ns.zip vs) = (putNs f ns).zip vs' ∧ EncL n (putDs f d ns ds) vs' r' ∧ rv + r = old + r' ∧ (putNs f ns).length = (putDs f d ns ds).length
  | [], ds, vs, r, h, hl => by
    cases ds with
    | cons _ _ => cases hl
    | nil =>
      obtain ⟨rfl, rfl⟩ := h
      exact ⟨[v], rv, 0, rfl, EncL.one hx, by rw [Rs.add_zero, Rs.zero_add], rfl⟩
  | x :: ns, [], _, _, _, hl => by cases hl
  | x :: ns, d0 :: ds, _, _, h, hl => by
    obtain ⟨w, vs', r1, r2, rfl, rfl, h1, h2⟩ := h
    by_cases c : f = x
    · subst c
      refine ⟨v :: vs', rv + r2, r1, ?_, ?_, by ac_rfl, ?_⟩
      · rw [List.zip_cons_cons]
        rw [show putF f v ((f, w) :: ns.zip vs') = (if f = f then (f, v) :: ns.zip vs' else (f, w) :: putF f v (ns.zip vs')) from rfl, if_pos rfl]
        rw [show putNs f (f :: ns) = (if (f == f) = true then f :: ns else f :: putNs f ns) from rfl, if_pos (beq_self_eq_true f)]
        rfl
      · show EncL n (if (f == f) = true then d :: ds else d0 :: putDs f d ns ds) _ _
        rw [if_pos (beq_self_eq_true f)]
        exact ⟨v, vs', rv, r2, rfl, rfl, hx, h2⟩
      · show (if (f == f) = true then _ else _ : List Str).length = (if (f == f) = true then _ else _ : List D).length
        rw [if_pos (beq_self_eq_true f), if_pos (beq_self_eq_true f)]
        exact hl
    · have c' : ¬ ((f == x) = true) := fun z => c (eq_of_beq z)
      obtain ⟨ws, r', old, e1, e2, e3, e4⟩ := put_ok hx h2 (by simpa using hl)
      refine ⟨w :: ws, r1 + r', old, ?_, ?_, ?_, ?_⟩
      · rw [List.zip_cons_cons]
        rw [show putF f v ((x, w) :: ns.zip vs') = (if x = f then (x, v) :: ns.zip vs' else (x, w) :: putF f v (ns.zip vs')) from rfl, if_neg (fun z => c z.symm)]
        rw [show putNs f (x :: ns) = (if (f == x) = true then x :: ns else x :: putNs f ns) from rfl, if_neg c', List.zip_cons_cons, ← e1]
      · show EncL n (if (f == x) = true then d :: ds else d0 :: putDs f d ns ds) _ _
        rw [if_neg c']
        exact ⟨w, ws, r1, r', rfl, rfl, h1, e2⟩
      · rw [show rv + (r1 + r2) = r1 + (rv + r2) by ac_rfl, e3]
        ac_rfl
      · show (if (f == x) = true then _ else _ : List Str).length = (if (f == x) = true then _ else _ : List D).length
        rw [if_neg c', if_neg c', List.length_cons, List.length_cons, e4]
theorem EncW.get {n : En} : ∀ {W : List Ob} {as : List Addr} {r : Rs} {i : Nat} {o : Ob}, EncW n W as r → W[i]? = some o → ∃ a ri rest, as[i]? = some a ∧ EncO n o a ri ∧ r = ri + rest ∧
    ∀ m o' ri', n.le m → EncO m o' a ri' → EncW m (W.set i o') as (ri' + rest)
  | [], _, _, _, _, _, e => by simp at e
  | o0 :: W, _, _, 0, o, h, e => by
    obtain ⟨a, as', r1, r2, rfl, rfl, h1, h2⟩ := h
    obtain rfl := Option.some.inj e
    exact ⟨a, r1, r2, rfl, h1, rfl, fun m o' ri' l x => ⟨a, as', ri', r2, rfl, rfl, x, h2.mono l⟩⟩
  | o0 :: W, _, _, i + 1, o, h, e => by
    obtain ⟨a, as', r1, r2, rfl, rfl, h1, h2⟩ := h
    obtain ⟨b, ri, rest, e1, x, rfl, k⟩ := EncW.get (i := i) h2 e
    exact ⟨b, ri, r1 + rest, e1, x, by ac_rfl, fun m o' ri' l x' => ⟨a, as', r1, ri' + rest, rfl, by ac_rfl, h1.mono l, k m o' ri' l x'⟩⟩
theorem EncW.len {n : En} : ∀ {W : List Ob} {as : List Addr} {r : Rs}, EncW n W as r → as.length = W.length
  | [], _, _, h => by rw [h.1]; rfl
  | o :: W, _, _, h => by
    obtain ⟨a, as', r1, r2, rfl, rfl, h1, h2⟩ := h
    rw [List.length_cons, List.length_cons, EncW.len h2]
def getOb (s : MS) (i : Nat) : Option Ob := s.wd.bind fun W => W[i]?
def setOb (s : MS) (i : Nat) (o : Ob) : MS := { s with wd := s.wd.map fun W => W.set i o }
/-- an object of the state -/
theorem RelS.ob {n : En} {c : Ct} {s : MS} {σ : L2.St} {R : Rs} {i : Nat} {o : Ob} (h : RelS n c s σ R) (e : getOb s i = some o) : ∃ a ri rest, n.wa[i]? = some a ∧ EncO n o a ri ∧ R = ri + rest ∧
    ∀ m o' ri', n.le m → m.wa = n.wa → EncO m o' a ri' → RelS m c (setOb s i o') σ (ri' + rest) := by
  obtain ⟨rf, rw', er, h1, h2, h3, h4⟩ := h
  obtain ⟨fr, wd⟩ := s
  cases wd with
  | none => cases e
  | some W =>
    have e : W[i]? = some o := e
    obtain ⟨a, ri, rest, e1, x, rfl, k⟩ := EncW.get (show EncW n W n.wa rw' from h2) e
    refine ⟨a, ri, rf + rest, e1, x, by rw [er]; ac_rfl, fun m o' ri' l w x' => ⟨rf, ri' + rest, by ac_rfl, h1.mono l, ?_, h3, ?_⟩⟩
    · show EncW m (W.set i o') m.wa _
      rw [w]
      exact k m o' ri' l x'
    · cases hc : c.pw with
      | none => trivial
      | some ww =>
        rw [hc] at h4
        cases h4.1
section
variable {X : Cx} {g : Gj} {W : WX} {p pa pb po : Bool} {a b e o tg : Expr} {es : List Expr} {ma mb mo m : M D} {ms : M (List D)} {pos q apos : Pos} {k : M Fl}
/-! ### a field is read -/
def fldOf (c f : Str) (d : D) (s : MS) : Option D := match d with
  | .obj i => (getOb s i).bind fun ob => if ob.c = c then look f ob.ns ob.ds else none
  | .fin c' ns ds => if c' = c then look f ns ds else none
  | _ => none
def mFld (c f : Str) (ma : M D) : M D := fun s => (ma s).bind fun d s1 => mOpt (fldOf c f d s1) s1
theorem fld_at {n : En} {ct : Ct} {s : MS} {σ : L2.St} {R Mr T : Rs} {H : Hp} {c f : Str} {d d' : D} {v : V} {r : Rs} (rl : RelS n ct s σ R) (o : Ok n.B (T + (R + Mr)) H) (x : Enc n d v r) (e : fldOf c f d s = some d') :
    ∃ a dx fs w ri, v = .ref a ∧ H a = some (.ins (n.g.ca c) dx fs) ∧ fs.lookup f = some w ∧ Enc n d' w ri ∧ Sub ri R := by
  cases d <;> first | (cases e; done) | skip
  · rename_i c' ns ds
    obtain ⟨rfl, a, dx, vs, rfl, eb, hl, hk⟩ := x
    have e9 : (if c' = c then look f ns ds else none) = some d' := e
    by_cases hc : c' = c
    · rw [if_pos hc] at e9
      clear e
      subst hc
      obtain ⟨w, ri, rest, e1, e2, e3⟩ := look_ok hl e9
      obtain ⟨rfl, _⟩ := Rs.zero_of_add e3
      exact ⟨a, dx, _, w, 0, rfl, o.same _ _ eb, e1, e2, Sub.zero _⟩
    · rw [if_neg hc] at e9; cases e9
  · rename_i i
    obtain ⟨rfl, a, rfl, ea⟩ := x
    have e : (getOb s i).bind (fun ob => if ob.c = c then look f ob.ns ob.ds else none) = some d' := e
    cases eo : getOb s i with
    | none => rw [eo] at e; cases e
    | some ob =>
      rw [eo] at e
      have e9 : (if ob.c = c then look f ob.ns ob.ds else none) = some d' := e
      clear e
      by_cases hc : ob.c = c
      · rw [if_pos hc] at e9
        subst hc
        obtain ⟨a', ri, rest, e1, xo, er, _⟩ := rl.ob eo
        rw [ea] at e1
        cases e1
        have hnb : ob.c ≠ bxN := fun z => by
          obtain ⟨hn, d1, hd1, _⟩ := xo.box z
          rw [hn] at e9
          cases ob.ds <;> cases e9
        obtain ⟨dx, vs, r', rfl, hl, hk⟩ := xo.ins hnb
        obtain ⟨w, rj, rest', e2, e3, rfl⟩ := look_ok hl e9
        exact ⟨a, dx, _, w, rj, rfl, o.at ⟨T + (rj + rest' + rest + Mr), by rw [er]; ac_rfl⟩, e2, e3, ⟨Rs.one a (.ins (n.g.ca ob.c) dx (ob.ns.zip vs)) + rest' + rest, by rw [er]; ac_rfl⟩⟩
      · rw [if_neg hc] at e9; cases e9
theorem se_fld {c f : Str} (hK : X.K = g.K) (hc : Cls g.K (g.ca c)) (hn : NoAttr g.K (g.ca c) f) (ha : SE X g W .E p e ma) (hb : attributeBase e f X.env (eval e X.env) = eval e X.env := by rfl) : SE X g W .E p (.Attribute e f pos) (mFld c f ma) :=
  PE.imp (pe_fldK (K := g.K) ha hb hK) fun σ H Q ⟨n, ct, s, R, Mr, pr, q⟩ => by
    unfold mFld at q
    refine one pr q fun n1 s1 R1 T H1 d v r l1 g1 e1 rl1 x u o q => ?_
    cases hd : fldOf c f d s1 with
    | none => rw [hd] at q; exact False.elim q
    | some d' =>
      rw [hd] at q
      obtain ⟨a, dx, fs, w, ri, rfl, eh, el, xd, us⟩ := fld_at rl1 o x hd
      rw [g1] at eh
      exact ⟨a, _, dx, fs, w, rfl, eh, hc, hn, el, q n1 R1 H1 l1 e1 rl1 w ⟨T, ri, xd, us.addl T, o⟩⟩
/-! ### a field is stored -/
def putOb (c f : Str) (d : D) (dv : D) (s : MS) : Option MS := match d with
  | .obj i => (getOb s i).bind fun ob => if (decide (ob.c = c) && decide (ob.ns.length < 900)) = true then some (setOb s i ⟨ob.c, putNs f ob.ns, putDs f dv ob.ns ob.ds⟩) else none
  | _ => none
theorem put_at {n : En} {ct : Ct} {s s' : MS} {σ : L2.St} {R T rv : Rs} {H : Hp} {c f : Str} {d dv : D} {v vv : V} {r : Rs} (rl : RelS n ct s σ R) (o : Ok n.B (rv + R + T) H) (x : Enc n d v r) (xv : Enc n dv vv rv) (e : putOb c f d dv s = some s') (hbx : c ≠ bxN) :
    ∃ a dx fs R', v = .ref a ∧ H a = some (.ins (n.g.ca c) dx fs) ∧ fs.length < 1000 ∧ RelS n ct s' σ R' ∧ Ok n.B (R' + T) (upd H a (.ins (n.g.ca c) dx (putF f vv fs))) := by
  cases d <;> first | (cases e; done) | skip
  rename_i i
  obtain ⟨rfl, a, rfl, ea⟩ := x
  have e : (getOb s i).bind (fun ob => if (decide (ob.c = c) && decide (ob.ns.length < 900)) = true then some (setOb s i ⟨ob.c, putNs f ob.ns, putDs f dv ob.ns ob.ds⟩) else none) = some s' := e
  cases eo : getOb s i with
  | none => rw [eo] at e; cases e
  | some ob =>
    rw [eo] at e
    have e : (if (decide (ob.c = c) && decide (ob.ns.length < 900)) = true then some (setOb s i ⟨ob.c, putNs f ob.ns, putDs f dv ob.ns ob.ds⟩) else none) = some s' := e
    cases hc : (decide (ob.c = c) && decide (ob.ns.length < 900)) with
    | false => rw [hc] at e; cases e
    | true =>
      rw [hc, if_pos rfl] at e
      cases e
      rw [Bool.and_eq_true] at hc
      have hcc := of_decide_eq_true hc.1
      have hln := of_decide_eq_true hc.2
      subst hcc
      obtain ⟨a', ri, rest, e1, xo, er, kk⟩ := rl.ob eo
      rw [ea] at e1
      cases e1
      obtain ⟨dx, vs, r', rfl, hl, hk⟩ := xo.ins hbx
      obtain ⟨vs', r'', old, p1, p2, p3, p4⟩ := put_ok (f := f) xv hl hk
      have o2 : Ok n.B (Rs.one a (.ins (n.g.ca ob.c) dx (ob.ns.zip vs)) + (rv + r' + (rest + T))) H := o.cast (by rw [er]; ac_rfl)
      refine ⟨a, dx, _, Rs.one a (.ins (n.g.ca ob.c) dx ((putNs f ob.ns).zip vs')) + r'' + rest, rfl, o2.at ⟨_, rfl⟩, ?_, kk n ⟨ob.c, putNs f ob.ns, putDs f dv ob.ns ob.ds⟩ _ (En.le.refl n) rfl (.inl ⟨hbx, dx, vs', r'', rfl, p2, p4⟩), ?_⟩
      · rw [List.length_zip, hl.len]
        omega
      · have o3 := o2.put (o := .ins (n.g.ca ob.c) dx (putF f vv (ob.ns.zip vs)))
        rw [p1] at o3 ⊢
        rw [p3] at o3
        exact (o3.cast (show _ = old + (Rs.one a (.ins (n.g.ca ob.c) dx ((putNs f ob.ns).zip vs')) + r'' + rest + T) by ac_rfl)).drop
def mFldSet (c f : Str) (mo mv : M D) : M Fl := fun s => (mv s).bind fun dv s1 => (mo s1).bind fun d s2 => match putOb c f d dv s2 with
  | some s3 => .ok .nx s3
  | none => .bad
theorem ss_fld {c f : Str} {pos' : Pos} (hK : X.K = g.K) (hc : Cls g.K (g.ca c)) (hn : NoAttr g.K (g.ca c) f) (ho : SE X g W .E true o mo) (hv : SE X g W .F p e m) (hs : swapsWith e (some (.Attribute o f pos')) pos.line X.env = pure false := by rfl) (hbx : c ≠ bxN := by decide) : SS X g W (.Assign [.Attribute o f pos'] e pos) (mFldSet c f mo m) :=
  PS.imp (ps_fldK (K := g.K) ho hv hs hK) fun Dn σ H ⟨n, ct, s, R, Mr, pr, q⟩ => by
    unfold mFldSet at q
    refine ⟨n, ct, s, R, Mr, pr, ?_⟩
    cases hm : m s with
    | bad => rw [hm] at q; exact q
    | er e s' => rw [hm] at q; exact fun n2 R2 H2 l2 r2 o2 => q n2 R2 H2 σ l2 r2 o2
    | ok dv s1 =>
      rw [hm, Rz.bind_ok] at q
      intro n1 R1 H1 l1 e1 rl1 vv o1
      obtain ⟨rv, xv, o1⟩ := o1
      refine ⟨n1, ct, s1, R1, rv + Mr, ⟨pg l1 pr.1, rl1, o1.cast (by ac_rfl)⟩, ?_⟩
      cases hm2 : mo s1 with
      | bad => rw [hm2] at q; exact q
      | er e s' => rw [hm2] at q; exact fun n2 R2 H2 l2 r2 o2 => q n2 R2 H2 σ (l1.trans l2) r2 ((o2.cast (show _ = rv + (R2 + Mr) by ac_rfl)).drop)
      | ok d s2 =>
        rw [hm2, Rz.bind_ok] at q
        intro n2 R2 H2 l2 e2 rl2 v o2
        obtain ⟨t, r, x, u, o2⟩ := o2
        obtain ⟨w2, rfl, rfl⟩ := e2 rfl
        cases hp : putOb c f d dv s2 with
        | none => rw [hp] at q; exact False.elim q
        | some s3 =>
          rw [hp] at q
          obtain ⟨a, dx, fs, R', rfl, eh, hl, rl', o'⟩ := put_at (T := Mr) rl2 (o2.drop.cast (show _ = rv + R2 + Mr by ac_rfl)) x (xv.mono l2) hp hbx
          have hg : n2.g.ca = g.ca := by rw [(pg l2 (pg l1 pr.1)).1]
          rw [hg] at eh o'
          exact ⟨a, _, dx, fs, rfl, eh, hc, hn, hl, q n2 R' _ σ (l1.trans l2) rl' o'⟩
/-! o.f op= e, ints -/
def mFldAug (c f : Str) (fi : Int → Int → Int) (mo mv : M D) : M Fl := fun s => (mo s).bind fun d s1 => match fldOf c f d s1 with
  | none => .bad
  | some x => (mv s1).bind fun y s2 => match dI fi x y with
    | none => .bad
    | some z => (match putOb c f d z s2 with
      | some s3 => .ok .nx s3
      | none => .bad)
theorem ss_fldaug {c f : Str} {op : Operator} {rd : V → V → Hp → VK → Prop} {fi : Int → Int → Int} {tpos : Pos} (hK : X.K = g.K) (hc : Cls g.K (g.ca c)) (hn : NoAttr g.K (g.ca c) f) (hop : InOp X op rd) (hrd : ∀ i j H Q, Q (.int (fi i j)) H → rd (.int i) (.int j) H Q)
    (ho : SE X g W .E true o mo) (hv : SE X g W .E true e m) (hbx : c ≠ bxN := by decide) : SS X g W (.AugAssign (.Attribute o f tpos) op e pos) (mFldAug c f fi mo m) :=
  PS.imp (ps_fldaugK (K := g.K) ho hv hop hK) fun Dn σ H ⟨n, ct, s, R, Mr, pr, q⟩ => by
    unfold mFldAug at q
    refine ⟨n, ct, s, R, Mr, pr, ?_⟩
    cases hm : mo s with
    | bad => rw [hm] at q; exact q
    | er e s' => rw [hm] at q; exact fun n2 R2 H2 l2 r2 o2 => q n2 R2 H2 σ l2 r2 o2
    | ok d s1 =>
      rw [hm, Rz.bind_ok] at q
      intro n1 R1 H1 l1 e1 rl1 v o1
      obtain ⟨t, r, x, u, o1⟩ := o1
      obtain ⟨w1, rfl, rfl⟩ := e1 rfl
      cases hf : fldOf c f d s1 with
      | none => rw [hf] at q; exact False.elim q
      | some x0 =>
        rw [hf] at q
        obtain ⟨a, dx, fs, w, ri, rfl, eh, el, xd, us⟩ := fld_at rl1 o1 x hf
        have hg : n1.g.ca = g.ca := by rw [(pg l1 pr.1).1]
        rw [hg] at eh
        dsimp only at q
        refine ⟨a, _, dx, fs, w, rfl, eh, hc, hn, el, n1, ct, s1, R1, Mr, ⟨pg l1 pr.1, rl1, o1.drop⟩, ?_⟩
        cases hm2 : m s1 with
        | bad => rw [hm2] at q; exact q
        | er e s' => rw [hm2] at q; exact fun n2 R2 H2 l2 r2 o2 => q n2 R2 H2 σ (l1.trans l2) r2 o2
        | ok y0 s2 =>
          rw [hm2, Rz.bind_ok] at q
          intro n2 R2 H2 l2 e2 rl2 v2 o2
          obtain ⟨t2, r2, x2, u2, o2⟩ := o2
          obtain ⟨w2, rfl, rfl⟩ := e2 rfl
          cases hi : dI fi x0 y0 with
          | none => rw [hi] at q; exact False.elim q
          | some z =>
            rw [hi] at q
            dsimp only at q
            obtain ⟨i, j, ez⟩ : ∃ i j, x0 = .int i ∧ y0 = .int j ∧ z = .int (fi i j) := by
              cases x0 <;> first | (cases hi; done) | skip
              cases y0 <;> cases hi
              exact ⟨_, _, rfl, rfl, rfl⟩
            obtain ⟨rfl, rfl, rfl⟩ := ez
            obtain ⟨rfl, rfl⟩ := xd
            obtain ⟨rfl, rfl⟩ := x2
            refine hrd _ _ _ _ ?_
            cases hp : putOb c f d (.int (fi i j)) s2 with
            | none => rw [hp] at q; exact False.elim q
            | some s3 =>
              rw [hp] at q
              obtain ⟨a', dx', fs', R', ea, eh', hl, rl', o'⟩ := put_at (T := Mr) (rv := 0) (dv := .int (fi i j)) (vv := .int (fi i j)) rl2 (by rw [Rs.zero_add]; exact o2.drop) (x.mono l2) ⟨rfl, rfl⟩ hp hbx
              cases ea
              have hg2 : n2.g.ca = g.ca := by rw [(pg l2 (pg l1 pr.1)).1]
              rw [hg2] at eh' o'
              exact ⟨dx', fs', eh', hl, q n2 R' _ σ (l1.trans l2) rl' o'⟩
end
end Mi

namespace Mi
open PySem PySem.Spec PyProof.Rows Hk
open L2 hiding Takes XE CX takes_of passes_call MkP PMk ps_raise mk_of ps_try_as passAt pmk_own
open L2N (Takes XE CX takes_of passes_call MkP PMk ps_raise mk_of ps_try_as passAt pmk_own)
/-! ## methods, makes -/
theorem zip_none {m : Str} : ∀ {ns : List Str} {vs : List V}, ns.contains m = false → (ns.zip vs).lookup m = none
  | [], _, _ => rfl
  | n :: ns, [], _ => rfl
  | n :: ns, v :: vs, h => by
    rw [List.contains_cons, Bool.or_eq_false_iff] at h
    rw [List.zip_cons_cons, List.lookup_cons, h.1]
    exact zip_none h.2
/-- the receiver's class, and that the method is no attribute -/
def isCls (c m : Str) (d : D) (s : MS) : Bool := match d with
  | .obj i => (match getOb s i with
    | some ob => decide (ob.c = c) && !(ob.ns.contains m)
    | none => false)
  | .fin c' ns _ => decide (c' = c) && !(ns.contains m)
  | _ => false
theorem isCls_ok {n : En} {ct : Ct} {s : MS} {σ : L2.St} {R Mr T : Rs} {H : Hp} {c m : Str} {d : D} {v : V} {r : Rs} (rl : RelS n ct s σ R) (o : Ok n.B (T + (R + Mr)) H) (x : Enc n d v r) (e : isCls c m d s = true) (hbx : c ≠ bxN) :
    ∃ a dx fs, v = .ref a ∧ H a = some (.ins (n.g.ca c) dx fs) ∧ fs.lookup m = none ∧ r = 0 := by
  cases d <;> first | (cases e; done) | skip
  · rename_i c' ns ds
    obtain ⟨rfl, a, dx, vs, rfl, eb, hl, hk⟩ := x
    have e : (decide (c' = c) && !(ns.contains m)) = true := e
    rw [Bool.and_eq_true] at e
    have hc := of_decide_eq_true e.1
    subst hc
    exact ⟨a, dx, _, rfl, o.same _ _ eb, zip_none (by simpa using e.2), rfl⟩
  · rename_i i
    obtain ⟨rfl, a, rfl, ea⟩ := x
    have e : (match getOb s i with
    | some ob => decide (ob.c = c) && !(ob.ns.contains m)
    | none => false) = true := e
    cases eo : getOb s i with
    | none => rw [eo] at e; cases e
    | some ob =>
      rw [eo] at e
      have e : (decide (ob.c = c) && !(ob.ns.contains m)) = true := e
      rw [Bool.and_eq_true] at e
      have hc := of_decide_eq_true e.1
      subst hc
      obtain ⟨a', ri, rest, e1, xo, er, _⟩ := rl.ob eo
      rw [ea] at e1
      cases e1
      obtain ⟨dx, vs, r', rfl, hl, hk⟩ := xo.ins hbx
      exact ⟨a, dx, _, rfl, o.at ⟨T + (r' + rest + Mr), by rw [er]; ac_rfl⟩, zip_none (by simpa using e.2), rfl⟩
/-- what follows when the arguments stand -/
def afterE (F : Fm) (s1 : MS) (xs : List (Sum D Nat)) : Rz D := match takeA s1.fr xs with
  | none => .bad
  | some y => (match F s1.wd y.1 with
    | .ok d os wd => (match putA y.2 xs os with
      | some fr => .ok d ⟨fr, wd⟩
      | none => .bad)
    | .er e os wd => (match putA y.2 xs os with
      | some fr => .er e ⟨fr, wd⟩
      | none => .bad)
    | .bad => .bad)
theorem mCallE_eq (F : Fm) (as : List Ag) (s : MS) : mCallE F as s = (mAgs as s).bind fun xs s1 => afterE F s1 xs := rfl
def afterP (F : Fm) (ds : List D) (s1 : MS) : Rz D := match F none ds with
  | .ok d [] none => .ok d s1
  | .er e [] none => .er e s1
  | _ => .bad
theorem mCallP_eq (F : Fm) (ms : M (List D)) (s : MS) : mCallP F ms s = (ms s).bind fun ds s1 => afterP F ds s1 := rfl
section
variable {X : Cx} {g : Gj} {W : WX} {p pa pb po : Bool} {a b e o : Expr} {es : List Expr} {ma mb mo m : M D} {ms : M (List D)} {pos q apos : Pos} {k : Nat} {ps : List Str} {F : Fm} {x mn : Str} {t : TA}
theorem afterE_ok {io : List Nat} {n n1 : En} {c : Ct} {s s1 : MS} {σ : L2.St} {R R1 Mr : Rs} {H1 : Hp} {Q : VK} {xs : List (Sum D Nat)} {vs : List V} (hpos : posM 0 xs = io) (hg : n1.g = g.toGd) (l1 : n.le n1) (rl1 : RelS n1 c s1 σ R1) (xm : EncM n1 σ xs vs) (o1 : Ok n1.B (R1 + Mr) H1)
    (q : Post g W false c n s σ R Mr (finE .F Mr Q) (afterE F s1 xs)) : spF g.toGd io F vs H1 Q (WE W σ) := by
  unfold afterE at q
  cases ht : takeA s1.fr xs with
  | none => rw [ht] at q; exact False.elim q
  | some y =>
    obtain ⟨ds, fr1⟩ := y
    rw [ht] at q
    dsimp only at q
    obtain ⟨rf, rw', er, h1, h2, h3, h4⟩ := rl1
    obtain ⟨rd, rest, e1, xd, h1'⟩ := takeA_ok h1 xm ht
    refine ⟨n1, s1.wd, ds, rd, rw', rest + Mr, hg, xd, h2, o1.cast (by rw [er, e1]; ac_rfl), ?_⟩
    have pw : ∀ {n2 : En} {wd : Option (List Ob)}, (s1.wd = none → wd = none ∧ n2.wa = n1.wa) → PwOk n2 wd c.pw := fun {n2 wd} z => by
      cases hc : c.pw with
      | none => trivial
      | some w =>
        rw [hc] at h4
        obtain ⟨z1, z2⟩ := z h4.1
        exact ⟨z1, z2.trans h4.2⟩
    cases hF : F s1.wd ds with
    | bad => rw [hF] at q; exact False.elim q
    | er e os wd =>
      rw [hF] at q
      dsimp only at q
      cases hp : putA fr1 xs os with
      | none => rw [hp] at q; exact False.elim q
      | some fr2 =>
        rw [hp] at q
        intro n2 ro rw2 H2 l2 z x2 y2 o2
        rw [← hpos] at x2
        exact q n2 (ro + rest + rw2) H2 (l1.trans l2) ⟨ro + rest, rw2, rfl, putA_ok (h1'.mono l2) xm x2 hp, y2, h3, pw z⟩ (o2.cast (by ac_rfl))
    | ok d os wd =>
      rw [hF] at q
      dsimp only at q
      cases hp : putA fr1 xs os with
      | none => rw [hp] at q; exact False.elim q
      | some fr2 =>
        rw [hp] at q
        intro n2 v r ro rw2 H2 l2 z x2 y2 xd2 o2
        rw [← hpos] at x2
        exact q n2 (ro + rest + rw2) H2 (l1.trans l2) (fun z => absurd z Bool.false_ne_true) ⟨ro + rest, rw2, rfl, putA_ok (h1'.mono l2) xm x2 hp, y2, h3, pw z⟩ v ⟨r, xd2, o2.cast (by ac_rfl)⟩
theorem afterP_ok {n n1 : En} {c : Ct} {s s1 : MS} {σ : L2.St} {R R1 Mr : Rs} {H1 : Hp} {Q : VK} {ds : List D} {vs : List V} (hg : n1.g = g.toGd) (l1 : n.le n1) (e1 : p = true → n1.wa = n.wa ∧ R1 = R ∧ s1 = s) (rl1 : RelS n1 c s1 σ R1) (x : EncL n1 ds vs 0) (o : Ok n1.B (R1 + Mr) H1)
    (q : Post g W p c n s σ R Mr (finE .F Mr Q) (afterP F ds s1)) : spF g.toGd [] F vs H1 Q (WE W σ) := by
  unfold afterP at q
  refine ⟨n1, none, ds, 0, 0, R1 + Mr, hg, x, rfl, by rw [Rs.zero_add, Rs.zero_add]; exact o, ?_⟩
  cases hF : F none ds with
  | bad => rw [hF] at q; exact False.elim q
  | er e os wd =>
    rw [hF] at q
    cases os with
    | cons _ _ => exact False.elim q
    | nil =>
      cases wd with
      | some _ => exact False.elim q
      | none =>
        intro n2 ro rw' H2 l2 z x2 y2 o2
        obtain ⟨_, rfl⟩ := x2
        obtain rfl : rw' = 0 := y2
        rw [Rs.zero_add, Rs.zero_add] at o2
        exact q n2 R1 H2 (l1.trans l2) (rl1.mono l2 (z rfl).2) o2
  | ok d os wd =>
    rw [hF] at q
    cases os with
    | cons _ _ => exact False.elim q
    | nil =>
      cases wd with
      | some _ => exact False.elim q
      | none =>
        intro n2 v r ro rw' H2 l2 z x2 y2 xd o2
        obtain ⟨_, rfl⟩ := x2
        obtain rfl : rw' = 0 := y2
        rw [Rs.zero_add, Rs.zero_add] at o2
        exact q n2 R1 H2 (l1.trans l2) (fun zz => ⟨(z rfl).2.trans (e1 zz).1, (e1 zz).2⟩) (rl1.mono l2 (z rfl).2) v ⟨r, xd, o2⟩
/-! ### o.m(..) -/
def mMethE (c mn : Str) (F : Fm) (mo : M D) (as : List Ag) : M D := fun s => (mo s).bind fun d s1 => if (isCls c mn d s1 && hasIo as s1) = true then (mAgs as s1).bind fun xs s2 => afterE F s2 (.inl d :: xs) else .bad
def mMethP (c mn : Str) (F : Fm) (mo : M D) (ms : M (List D)) : M D := fun s => (mo s).bind fun d s1 => if isCls c mn d s1 = true then (ms s1).bind fun ds s2 => afterP F (d :: ds) s2 else .bad
theorem hasIo_ok {as : List Ag} {n : En} {c : Ct} {s : MS} {σ : L2.St} {R : Rs} (rl : RelS n c s σ R) (h : hasIo as s = true) : ∀ j ∈ iosOf as, ∃ v, σ[j]? = some (some v) := fun j hj => by
  have := List.all_eq_true.mp h j hj
  split at this
  · rename_i d e
    obtain ⟨v, ri, rest, e1, _⟩ := rl.take' e
    exact ⟨v, e1⟩
  · cases this
theorem methE_core {c : Str} (hbx : c ≠ bxN) {io : List Nat} {as : List Ag} (hio : posA 1 as = io) (ht : ∀ σ H Q, (∀ j ∈ iosOf as, ∃ v, σ[j]? = some (some v)) → tM g W as σ H Q → t σ H Q) {σ : L2.St} {H : Hp} {Q : VK}
    (h : tE g W .F false (mMethE c mn F mo as) σ H Q) : tMethU (g.ca c) mn (spF g.toGd io F) (WE W) (tE g W .E po mo) t σ H Q := by
  obtain ⟨n, ct, s, R, Mr, pr, q⟩ := h
  unfold mMethE at q
  refine ⟨n, ct, s, R, Mr, pr, ?_⟩
  cases hm : mo s with
  | bad => rw [hm] at q; exact q
  | er e s' => rw [hm] at q; exact q
  | ok d s1 =>
    rw [hm, Rz.bind_ok] at q
    intro n1 R1 H1 l1 _ rl1 v o1
    obtain ⟨T, r, x, u, o1⟩ := o1
    cases hc : (isCls c mn d s1 && hasIo as s1) with
    | false => rw [hc] at q; exact False.elim q
    | true =>
      rw [hc, if_pos rfl] at q
      rw [Bool.and_eq_true] at hc
      obtain ⟨a, dx, fs, rfl, eh, el, rfl⟩ := isCls_ok rl1 o1 x hc.1 hbx
      have hg : n1.g.ca = g.ca := by rw [(pg l1 pr.1).1]
      rw [hg] at eh
      refine ⟨a, dx, fs, rfl, eh, el, ht σ H1 _ (hasIo_ok rl1 hc.2) ⟨n1, ct, s1, R1, Mr, ⟨pg l1 pr.1, rl1, o1.drop⟩, ?_⟩⟩
      cases hk : mAgs as s1 with
      | bad => rw [hk] at q; exact q
      | er e s' => rw [hk] at q; exact fun n2 R2 H2 l2 r2 o2 => q n2 R2 H2 (l1.trans l2) r2 o2
      | ok xs s2 =>
        rw [hk, Rz.bind_ok] at q
        intro n2 R2 H2 l2 _ rl2 vs xm o2
        exact afterE_ok (n := n) (s := s) (R := R) (xs := .inl d :: xs) (vs := .ref a :: vs) ((mAgs_pos 1 hk).trans hio) (pg l2 (pg l1 pr.1)).1 (l1.trans l2) rl2 ⟨_, _, rfl, x.mono l2, xm⟩ o2 q
theorem sf_methE {c : Str} {io : List Nat} {as : List Ag} {pl : Sem Bool} (ho : SE X g W .E po o mo) (hc : Cls X.K (g.ca c)) (G : GM X.prog X.w X.K X.mg X.base (g.ca c) mn k ps (spF g.toGd io F)) (hio : posA 1 as = io) (hr : Room k X.A) (tk : Takes X W) (ha : SM X g W (e :: es) as)
    (hst : starEach (e :: es) X.env = (false, eval e X.env) :: starEach es X.env := by rfl) (hpl : (backTo pos (starEach es X.env)).any (·.1) = false := by rfl)
    (ht : eval (.Call (.Attribute o mn apos) (e :: es) [] pos) X.env = (do
      let ov ← eval o X.env
      standAt apos.atName
      let (f, first) ← holding [ov] (getMethod ov mn pl)
      callWith pos f first (backTo pos (starEach (e :: es) X.env)) (backToKw pos (keywordEach [] X.env))) := by rfl) (hbx : c ≠ bxN := by decide) :
    SE X g W .F false (.Call (.Attribute o mn apos) (e :: es) [] pos) (mMethE c mn F mo as) := by
  obtain ⟨t, pa, ht'⟩ := ha
  exact PE.imp (pe_methG ho hc G hr tk pa hst hpl ht) fun σ H Q h => methE_core hbx hio ht' h
theorem sf_methE0 {c : Str} {pl : Sem Bool} (ho : SE X g W .E po o mo) (hc : Cls X.K (g.ca c)) (G : GM X.prog X.w X.K X.mg X.base (g.ca c) mn k ps (spF g.toGd [] F)) (hr : Room k X.A) (tk : Takes X W)
    (ht : eval (.Call (.Attribute o mn apos) [] [] pos) X.env = (do
      let ov ← eval o X.env
      standAt apos.atName
      let (f, first) ← holding [ov] (getMethod ov mn pl)
      callWith pos f first (backTo pos (starEach [] X.env)) (backToKw pos (keywordEach [] X.env))) := by rfl) (hbx : c ≠ bxN := by decide) :
    SE X g W .F false (.Call (.Attribute o mn apos) [] [] pos) (mMethE c mn F mo []) :=
  PE.imp (pe_methG0 ho hc G hr tk ht) fun σ H Q h => methE_core hbx (as := []) rfl (fun σ H Q _ ⟨n, pn, s, R, Mr, pr, q⟩ => q n R H (En.le.refl n) (fun z => absurd z Bool.false_ne_true) pr.2.1 [] rfl pr.2.2) h
theorem methP_core {c : Str} (hbx : c ≠ bxN) (ht : ∀ σ H Q, tA g W p ms σ H Q → t σ H Q) {σ : L2.St} {H : Hp} {Q : VK} (h : tE g W .F (po && p) (mMethP c mn F mo ms) σ H Q) : tMethU (g.ca c) mn (spF g.toGd [] F) (WE W) (tE g W .E po mo) t σ H Q := by
  obtain ⟨n, ct, s, R, Mr, pr, q⟩ := h
  unfold mMethP at q
  refine ⟨n, ct, s, R, Mr, pr, ?_⟩
  cases hm : mo s with
  | bad => rw [hm] at q; exact q
  | er e s' => rw [hm] at q; exact q
  | ok d s1 =>
    rw [hm, Rz.bind_ok] at q
    intro n1 R1 H1 l1 e1 rl1 v o1
    obtain ⟨T, r, x, u, o1⟩ := o1
    cases hc : isCls c mn d s1 with
    | false => rw [hc] at q; exact False.elim q
    | true =>
      rw [hc, if_pos rfl] at q
      obtain ⟨a, dx, fs, rfl, eh, el, rfl⟩ := isCls_ok rl1 o1 x hc hbx
      have hg : n1.g.ca = g.ca := by rw [(pg l1 pr.1).1]
      rw [hg] at eh
      refine ⟨a, dx, fs, rfl, eh, el, ht σ H1 _ ⟨n1, ct, s1, R1, Mr, ⟨pg l1 pr.1, rl1, o1.drop⟩, ?_⟩⟩
      cases hk : ms s1 with
      | bad => rw [hk] at q; exact q
      | er e s' => rw [hk] at q; exact fun n2 R2 H2 l2 r2 o2 => q n2 R2 H2 (l1.trans l2) r2 o2
      | ok ds s2 =>
        rw [hk, Rz.bind_ok] at q
        intro n2 R2 H2 l2 e2 rl2 vs xm o2
        refine afterP_ok (p := po && p) (n := n) (s := s) (R := R) (ds := d :: ds) (vs := .ref a :: vs) (pg l2 (pg l1 pr.1)).1 (l1.trans l2) (fun z => ?_) rl2 ⟨_, _, 0, 0, rfl, (Rs.zero_add 0).symm, x.mono l2, xm⟩ o2 q
        rw [Bool.and_eq_true] at z
        obtain ⟨a1, a2, a3⟩ := e1 z.1
        obtain ⟨b1, b2, b3⟩ := e2 z.2
        exact ⟨b1.trans a1, b2.trans a2, b3.trans a3⟩
theorem sf_methP {c : Str} {pl : Sem Bool} (ho : SE X g W .E po o mo) (hc : Cls X.K (g.ca c)) (G : GM X.prog X.w X.K X.mg X.base (g.ca c) mn k ps (spF g.toGd [] F)) (hr : Room k X.A) (tk : Takes X W) (ha : SA X g W p (e :: es) ms)
    (hst : starEach (e :: es) X.env = (false, eval e X.env) :: starEach es X.env := by rfl) (hpl : (backTo pos (starEach es X.env)).any (·.1) = false := by rfl)
    (ht : eval (.Call (.Attribute o mn apos) (e :: es) [] pos) X.env = (do
      let ov ← eval o X.env
      standAt apos.atName
      let (f, first) ← holding [ov] (getMethod ov mn pl)
      callWith pos f first (backTo pos (starEach (e :: es) X.env)) (backToKw pos (keywordEach [] X.env))) := by rfl) (hbx : c ≠ bxN := by decide) :
    SE X g W .F (po && p) (.Call (.Attribute o mn apos) (e :: es) [] pos) (mMethP c mn F mo ms) :=
  PE.imp (pe_methG ho hc G hr tk ha hst hpl ht) fun σ H Q h => methP_core hbx (fun _ _ _ z => z) h
theorem sf_methP0 {c : Str} {pl : Sem Bool} (ho : SE X g W .E po o mo) (hc : Cls X.K (g.ca c)) (G : GM X.prog X.w X.K X.mg X.base (g.ca c) mn k ps (spF g.toGd [] F)) (hr : Room k X.A) (tk : Takes X W)
    (ht : eval (.Call (.Attribute o mn apos) [] [] pos) X.env = (do
      let ov ← eval o X.env
      standAt apos.atName
      let (f, first) ← holding [ov] (getMethod ov mn pl)
      callWith pos f first (backTo pos (starEach [] X.env)) (backToKw pos (keywordEach [] X.env))) := by rfl) (hbx : c ≠ bxN := by decide) :
    SE X g W .F (po && true) (.Call (.Attribute o mn apos) [] [] pos) (mMethP c mn F mo mNil) :=
  PE.imp (pe_methG0 ho hc G hr tk ht) fun σ H Q h => methP_core hbx (p := true) (ms := mNil) (t := tNil) (fun σ H Q ⟨n, pn, s, R, Mr, pr, q⟩ => q n R H (En.le.refl n) (fun _ => ⟨rfl, rfl, rfl⟩) pr.2.1 [] ⟨rfl, rfl⟩ pr.2.2) h
/-! several classes: by the receiver's -/
def clsIs (c mn : Str) (mo : M D) (s : MS) : Bool := match mo s with
  | .ok d s1 => isCls c mn d s1
  | _ => true
def mDisp (c mn : Str) (mo m1 m2 : M D) : M D := fun s => if clsIs c mn mo s = true then m1 s else m2 s
theorem sf_disp {c : Str} {kd : Kd} {m1 m2 : M D} (h1 : SE X g W kd p e m1) (h2 : SE X g W kd p e m2) : SE X g W kd p e (mDisp c mn mo m1 m2) :=
  ⟨fun pins s σ H Q I ⟨n, ct, st, R, Mr, pr, q⟩ => by
    unfold mDisp at q
    cases hc : clsIs c mn mo st with
    | true => rw [hc, if_pos rfl] at q; exact h1.run pins s σ H Q I ⟨n, ct, st, R, Mr, pr, q⟩
    | false => rw [hc, if_neg Bool.false_ne_true] at q; exact h2.run pins s σ H Q I ⟨n, ct, st, R, Mr, pr, q⟩⟩
end
end Mi

namespace Mi
open PySem PySem.Spec PyProof.Rows Hk
open L2 hiding Takes XE CX takes_of passes_call MkP PMk ps_raise mk_of ps_try_as passAt pmk_own
open L2N (Takes XE CX takes_of passes_call MkP PMk ps_raise mk_of ps_try_as passAt pmk_own)
mutual
/-- no object with an identity within -/
def noObj : D → Bool
  | .obj _ => false
  | .tup ds => noObjL ds
  | .lst _ ds => noObjL ds
  | .dic _ _ ds => noObjL ds
  | .fin _ _ ds => noObjL ds
  | _ => true
def noObjL : List D → Bool
  | [] => true
  | d :: ds => noObj d && noObjL ds
end
mutual
theorem Enc.wa {n : En} {w : List Addr} : ∀ {d : D} {v : V} {r : Rs}, Enc n d v r → noObj d = true → Enc { n with wa := w } d v r
  | .non, _, _, h, _ => h
  | .bl _, _, _, h, _ => h
  | .int _, _, _, h, _ => h
  | .str _, _, _, h, _ => h
  | .ty _, _, _, h, _ => h
  | .tup ds, _, _, h, k => by
    obtain ⟨e, a, vs, e2, q, hl⟩ := h
    exact ⟨e, a, vs, e2, q, EncL.wa hl k⟩
  | .lst .o ds, _, _, h, k => by
    obtain ⟨a, vs, r', e, e2, hl⟩ := h
    exact ⟨a, vs, r', e, e2, EncL.wa hl k⟩
  | .lst .f ds, _, _, h, k => by
    obtain ⟨e, a, vs, e2, q, hl⟩ := h
    exact ⟨e, a, vs, e2, q, EncL.wa hl k⟩
  | .lst .r ds, _, _, h, k => by
    obtain ⟨e, a, vs, e2, q, hl⟩ := h
    exact ⟨e, a, vs, e2, q, EncL.wa hl k⟩
  | .dic true ks ds, _, _, h, k => by
    obtain ⟨a, vs, r', e, e2, hl, kk⟩ := h
    exact ⟨a, vs, r', e, e2, EncL.wa hl k, kk⟩
  | .dic false ks ds, _, _, h, k => by
    obtain ⟨e, a, vs, e2, q, hl, kk⟩ := h
    exact ⟨e, a, vs, e2, q, EncL.wa hl k, kk⟩
  | .fin c ns ds, _, _, h, k => by
    obtain ⟨e, a, dx, vs, e2, q, hl, kk⟩ := h
    exact ⟨e, a, dx, vs, e2, q, EncL.wa hl k, kk⟩
  | .obj i, _, _, _, k => absurd (show false = true from k) Bool.false_ne_true
theorem EncL.wa {n : En} {w : List Addr} : ∀ {ds : List D} {vs : List V} {r : Rs}, EncL n ds vs r → noObjL ds = true → EncL { n with wa := w } ds vs r
  | [], _, _, h, _ => h
  | d :: ds, _, _, h, k => by
    obtain ⟨v, vs', r1, r2, e1, e2, h1, h2⟩ := h
    have k : (noObj d && noObjL ds) = true := k
    rw [Bool.and_eq_true] at k
    exact ⟨v, vs', r1, r2, e1, e2, Enc.wa h1 k.1, EncL.wa h2 k.2⟩
end
theorem EncW.snoc {n : En} {o : Ob} {a : Addr} {ro : Rs} (x : EncO n o a ro) : ∀ {W : List Ob} {as : List Addr} {r : Rs}, EncW n W as r → EncW n (W ++ [o]) (as ++ [a]) (r + ro)
  | [], _, _, h => by
    obtain ⟨rfl, rfl⟩ := h
    exact ⟨a, [], ro, 0, rfl, by ac_rfl, x, rfl, rfl⟩
  | o0 :: W, _, _, h => by
    obtain ⟨b, as', r1, r2, rfl, rfl, h1, h2⟩ := h
    exact ⟨b, as' ++ [a], r1, r2 + ro, rfl, by ac_rfl, h1, EncW.snoc x h2⟩
section
variable {X : Cx} {g : Gj} {W : WX} {p pa pb po : Bool} {a b e o : Expr} {es : List Expr} {ma mb mo m : M D} {ms : M (List D)} {pos q apos : Pos} {k : Nat} {ps : List Str} {F : Fm} {x mn : Str} {t : TA}
/-! ### C(..): an object of the state -/
def afterMake (c : Str) (F : Fm) (s1 : MS) (xs : List (Sum D Nat)) : Rz D := match s1.wd with
  | none => .bad
  | some Wd => (match takeA s1.fr xs with
    | none => .bad
    | some y => (match F (some (Wd ++ [⟨c, [], []⟩])) (.obj Wd.length :: y.1) with
      | .ok d os (some W') => (match d, putA y.2 xs os with
        | .non, some fr => .ok (.obj Wd.length) ⟨fr, some W'⟩
        | _, _ => .bad)
      | .er e os (some W') => (match putA y.2 xs os with
        | some fr => .er e ⟨fr, some W'⟩
        | none => .bad)
      | _ => .bad))
def mMake (c : Str) (F : Fm) (as : List Ag) : M D := fun s => if hasIo as s = true then (mAgs as s).bind fun xs s1 => afterMake c F s1 xs else .bad
theorem fresh_le {B H : Hp} {r : Rs} {a b : Addr} {o u : HO} (h : Ok B r H) (hb : H b = none) (ha : H a = none) (hab : b ≠ a) : Ok B (Rs.one a o + r) (upd (upd H b u) a o) := by
  have h1 : Ok B r (upd H b u) := (h.add (o := u) hb).drop
  exact h1.add (by rw [upd_ne (fun z => hab z.symm)]; exact ha)
theorem make_core {c : Str} (hbx : c ≠ bxN) {io : List Nat} {as : List Ag} (hio : posA 1 as = io) (ht : ∀ σ H Q, (∀ j ∈ iosOf as, ∃ v, σ[j]? = some (some v)) → tM g W as σ H Q → t σ H Q) {σ : L2.St} {H : Hp} {Q : VK}
    (h : tE g W .F false (mMake c F as) σ H Q) : tMakeS (g.ca c) (spF g.toGd io F) (WE W) t σ H Q := by
  obtain ⟨n, ct, s, R, Mr, pr, q⟩ := h
  unfold mMake at q
  cases hc : hasIo as s with
  | false => rw [hc] at q; exact False.elim q
  | true =>
    rw [hc, if_pos rfl] at q
    refine ht σ H _ (hasIo_ok pr.2.1 hc) ⟨n, ct, s, R, Mr, pr, ?_⟩
    cases hk : mAgs as s with
    | bad => rw [hk] at q; exact q
    | er e s' => rw [hk] at q; exact q
    | ok xs s1 =>
      rw [hk, Rz.bind_ok] at q
      intro n1 R1 H1 l1 _ rl1 vs xm o1 xa dx hx hdx hne
      have hpos : posM 1 xs = io := (mAgs_pos 1 hk).trans hio
      unfold afterMake at q
      obtain ⟨fr1, wd1⟩ := s1
      cases wd1 with
      | none => exact False.elim q
      | some Wd =>
        dsimp only at q
        cases ht2 : takeA fr1 xs with
        | none => rw [ht2] at q; exact False.elim q
        | some y =>
          obtain ⟨ds, fr2⟩ := y
          rw [ht2] at q
          dsimp only at q
          obtain ⟨rf, rw', er, h1, h2, h3, h4⟩ := rl1
          obtain ⟨rd, rest, e1, xd, h1'⟩ := takeA_ok h1 xm ht2
          have hpw : ct.pw = none := by
            cases hc : ct.pw with
            | none => rfl
            | some w =>
              rw [hc] at h4
              cases h4.1
          have hwl : n1.wa.length = Wd.length := EncW.len (show EncW n1 Wd n1.wa rw' from h2)
          have hg1 := (pg l1 pr.1).1
          -- the new place
          have le : n1.le ⟨n1.g, n1.wa ++ [xa], n1.B⟩ := ⟨rfl, List.prefix_append _ _, Same.refl _⟩
          have xo : EncO ⟨n1.g, n1.wa ++ [xa], n1.B⟩ ⟨c, [], []⟩ xa (Rs.one xa (.ins (n1.g.ca c) dx []) + 0) := .inl ⟨hbx, dx, [], 0, rfl, ⟨rfl, rfl⟩, rfl⟩
          have hw2 : EncW ⟨n1.g, n1.wa ++ [xa], n1.B⟩ (Wd ++ [⟨c, [], []⟩]) (n1.wa ++ [xa]) (rw' + (Rs.one xa (.ins (n1.g.ca c) dx []) + 0)) := EncW.snoc xo (EncW.mono le h2)
          have o2 : Ok n1.B (Rs.one xa (.ins (g.ca c) dx []) + (R1 + Mr)) (upd (upd H1 dx (.own xa)) xa (.ins (g.ca c) dx [])) := fresh_le o1 hdx hx hne
          have hgc : n1.g.ca c = g.ca c := by rw [hg1]
          have xr : Enc ⟨n1.g, n1.wa ++ [xa], n1.B⟩ (.obj Wd.length) (.ref xa) 0 := ⟨rfl, xa, rfl, by
            show (n1.wa ++ [xa])[Wd.length]? = some xa
            rw [← hwl, List.getElem?_append_right (Nat.le_refl _), Nat.sub_self]
            rfl⟩
          refine ⟨⟨n1.g, n1.wa ++ [xa], n1.B⟩, some (Wd ++ [(⟨c, [], []⟩ : Ob)]), .obj Wd.length :: ds, rd, _, rest + Mr, hg1, ⟨_, _, 0, rd, rfl, (Rs.zero_add rd).symm, xr, xd.mono le⟩, hw2, ?_, ?_⟩
          · rw [hgc]
            rw [er, e1] at o2
            exact o2.cast (by rw [Rs.add_zero]; ac_rfl)
          have fin : ∀ {os : List D} {W' : List Ob} {fr : List (Option D)} {n2 : En} {ro rw2 : Rs}, (⟨n1.g, n1.wa ++ [xa], n1.B⟩ : En).le n2 → EncL n2 os (pick (.ref xa :: vs) io) ro → EncWo n2 (some W') rw2 → putA fr2 xs os = some fr →
              RelS n2 ct ⟨fr, some W'⟩ σ (ro + rest + rw2) := fun {os W' fr n2 ro rw2} l2 x2 y2 hp => by
            rw [← hpos, posM_succ, pick_cons] at x2
            refine ⟨ro + rest, rw2, rfl, putA_ok (h1'.mono (le.trans l2)) xm x2 hp, y2, h3, ?_⟩
            rw [hpw]
            trivial
          cases hF : F (some (Wd ++ [⟨c, [], []⟩])) (.obj Wd.length :: ds) with
          | bad => rw [hF] at q; exact False.elim q
          | er e os wd =>
            rw [hF] at q
            cases wd with
            | none => exact False.elim q
            | some W' =>
              dsimp only at q
              cases hp : putA fr2 xs os with
              | none => rw [hp] at q; exact False.elim q
              | some fr =>
                rw [hp] at q
                intro n2 ro rw2 H2 l2 z x2 y2 o3
                exact q n2 (ro + rest + rw2) H2 (l1.trans (le.trans l2)) (fin l2 x2 y2 hp) (o3.cast (by ac_rfl))
          | ok d os wd =>
            rw [hF] at q
            cases wd with
            | none => exact False.elim q
            | some W' =>
              dsimp only at q
              cases d <;> first | (exact False.elim q; done) | skip
              cases hp : putA fr2 xs os with
              | none => rw [hp] at q; exact False.elim q
              | some fr =>
                rw [hp] at q
                intro n2 v r ro rw2 H2 l2 z x2 y2 xd2 o3
                obtain ⟨rfl, rfl⟩ := xd2
                refine ⟨rfl, q n2 (ro + rest + rw2) H2 (l1.trans (le.trans l2)) (fun z => absurd z Bool.false_ne_true) (fin l2 x2 y2 hp) (.ref xa) ⟨0, xr.mono l2, o3.cast (by ac_rfl)⟩⟩
theorem sf_make {c : Str} {io : List Nat} {as : List Ag} (G : GC X.prog X.w X.K X.mg X.base x (g.ca c) k ps (spF g.toGd io F)) (hio : posA 1 as = io) (hr : Room (k + 1) X.A) (tk : Takes X W) (ha : SM X g W (e :: es) as) (hg : Gl X x := by rfl) (hdb : (x == ("__debug__" : Str)) = false := by decide)
    (he : starEach (e :: es) X.env = (false, eval e X.env) :: starEach es X.env := by rfl) (hpl : (backTo pos (starEach es X.env)).any (·.1) = false := by rfl) (hbx : c ≠ bxN := by decide) : SE X g W .F false (.Call (.Name x q) (e :: es) [] pos) (mMake c F as) := by
  obtain ⟨t, pa, ht'⟩ := ha
  exact PE.imp (pe_makeG G hr tk pa hg hdb he hpl) fun σ H Q h => make_core hbx hio ht' h
theorem sf_make0 {c : Str} (G : GC X.prog X.w X.K X.mg X.base x (g.ca c) k ps (spF g.toGd [] F)) (hr : Room (k + 1) X.A) (tk : Takes X W) (hg : Gl X x := by rfl) (hdb : (x == ("__debug__" : Str)) = false := by decide) (hbx : c ≠ bxN := by decide) : SE X g W .F false (.Call (.Name x q) [] [] pos) (mMake c F []) :=
  PE.imp (pe_makeG0 G hr tk hg hdb) fun σ H Q h => make_core hbx (as := []) rfl (fun σ H Q _ ⟨n, pn, s, R, Mr, pr, q⟩ => q n R H (En.le.refl n) (fun z => absurd z Bool.false_ne_true) pr.2.1 [] rfl pr.2.2) h
/-! ### C(..): an object that nobody changes from now on -/
def afterMakeZ (c : Str) (F : Fm) (s1 : MS) (ds : List D) : Rz D := if noObjL ds = true then (match F (some [⟨c, [], []⟩]) (.obj 0 :: ds) with
  | .ok d [] (some [ob]) => (match d with
    | .non => if (decide (ob.c = c) && noObjL (frzL ob.ds)) = true then .ok (.fin c ob.ns (frzL ob.ds)) s1 else .bad
    | _ => .bad)
  | .er e [] _ => .er e s1
  | _ => .bad) else .bad
def mMakeZ (c : Str) (F : Fm) (ms : M (List D)) : M D := fun s => (ms s).bind fun ds s1 => afterMakeZ c F s1 ds
theorem makeZ_core {c : Str} (hbx : c ≠ bxN) (ht : ∀ σ H Q, tA g W p ms σ H Q → t σ H Q) {σ : L2.St} {H : Hp} {Q : VK} (h : tE g W .F p (mMakeZ c F ms) σ H Q) : tMakeS (g.ca c) (spF g.toGd [] F) (WE W) t σ H Q := by
  obtain ⟨n, ct, s, R, Mr, pr, q⟩ := h
  unfold mMakeZ at q
  refine ht σ H _ ⟨n, ct, s, R, Mr, pr, ?_⟩
  cases hk : ms s with
  | bad => rw [hk] at q; exact q
  | er e s' => rw [hk] at q; exact q
  | ok ds s1 =>
    rw [hk, Rz.bind_ok] at q
    intro n1 R1 H1 l1 e1 rl1 vs xm o1 xa dx hx hdx hne
    unfold afterMakeZ at q
    cases hno : noObjL ds with
    | false => rw [hno] at q; exact False.elim q
    | true =>
      rw [hno, if_pos rfl] at q
      have hg1 := (pg l1 pr.1).1
      have hgc : n1.g.ca c = g.ca c := by rw [hg1]
      have o2 : Ok n1.B (Rs.one xa (.ins (g.ca c) dx []) + (R1 + Mr)) (upd (upd H1 dx (.own xa)) xa (.ins (g.ca c) dx [])) := fresh_le o1 hdx hx hne
      refine ⟨⟨n1.g, [xa], n1.B⟩, some [(⟨c, [], []⟩ : Ob)], .obj 0 :: ds, 0, _, R1 + Mr, hg1, ⟨_, _, 0, 0, rfl, (Rs.zero_add 0).symm, ⟨rfl, xa, rfl, rfl⟩, xm.wa hno⟩, ⟨xa, [], _, 0, rfl, rfl, .inl ⟨hbx, dx, [], 0, rfl, ⟨rfl, rfl⟩, rfl⟩, rfl, rfl⟩, ?_, ?_⟩
      · show Ok n1.B (0 + (Rs.one xa (.ins (n1.g.ca c) dx []) + 0 + 0) + (R1 + Mr)) _
        rw [hgc, Rs.zero_add, Rs.add_zero, Rs.add_zero]
        exact o2
      have out : ∀ {n2 : En}, (⟨n1.g, [xa], n1.B⟩ : En).le n2 → n1.le ⟨n2.g, n1.wa, n2.B⟩ := fun {n2} l2 => ⟨l2.1, List.prefix_refl _, l2.2.2⟩
      cases hF : F (some [⟨c, [], []⟩]) (.obj 0 :: ds) with
      | bad => rw [hF] at q; exact False.elim q
      | er e os wd =>
        rw [hF] at q
        cases os with
        | cons _ _ => exact False.elim q
        | nil =>
          intro n2 ro rw2 H2 l2 z x2 y2 o3
          exact q ⟨n2.g, n1.wa, n2.B⟩ R1 H2 (l1.trans (out l2)) (rl1.mono (out l2) rfl) ((o3.cast (show _ = (ro + rw2) + (R1 + Mr) by ac_rfl)).drop)
      | ok d os wd =>
        rw [hF] at q
        cases os with
        | cons _ _ => exact False.elim q
        | nil =>
          cases wd with
          | none => exact False.elim q
          | some W' =>
            cases W' with
            | nil => exact False.elim q
            | cons ob W'' =>
              cases W'' with
              | cons _ _ => exact False.elim q
              | nil =>
                dsimp only at q
                cases d <;> first | (exact False.elim q; done) | skip
                dsimp only at q
                cases hcc : (decide (ob.c = c) && noObjL (frzL ob.ds)) with
                | false => rw [hcc] at q; exact False.elim q
                | true =>
                  rw [hcc, if_pos rfl] at q
                  rw [Bool.and_eq_true] at hcc
                  have hc := of_decide_eq_true hcc.1
                  intro n2 v r ro rw2 H2 l2 z x2 y2 xd2 o3
                  obtain ⟨rfl, rfl⟩ := xd2
                  obtain ⟨_, rfl⟩ := x2
                  refine ⟨rfl, ?_⟩
                  obtain ⟨b, as', r1, r2, ew, rfl, xo, rfl, rfl⟩ : EncW n2 [ob] n2.wa rw2 := y2
                  have hb : b = xa := by
                    obtain ⟨tt, et⟩ := l2.2.1
                    rw [ew] at et
                    cases et
                    rfl
                  subst hb
                  obtain ⟨dx2, ws, r', rfl, hl, hkk⟩ := xo.ins (by rw [hc]; exact hbx)
                  obtain ⟨m, l3, ew3, x4, o4⟩ := hl.frz (R := Rs.one b (.ins (n2.g.ca ob.c) dx2 (ob.ns.zip ws)) + (R1 + Mr)) (H := H2) (o3.cast (by rw [Rs.zero_add, Rs.zero_add, Rs.add_zero]; ac_rfl))
                  have o5 := o4.freeze
                  have sm := o4.frzSame
                  have l4 : (⟨n1.g, [b], n1.B⟩ : En).le ⟨m.g, m.wa, upd m.B b (.ins (n2.g.ca ob.c) dx2 (ob.ns.zip ws))⟩ := (l2.trans l3).trans ⟨rfl, List.prefix_refl _, sm⟩
                  have l5 := out l4
                  refine q ⟨m.g, n1.wa, upd m.B b (.ins (n2.g.ca ob.c) dx2 (ob.ns.zip ws))⟩ R1 H2 (l1.trans l5) (fun z => ⟨(e1 z).1, (e1 z).2⟩) (rl1.mono l5 rfl) (.ref b) ⟨0, ⟨rfl, b, dx2, ws, rfl, ?_, ?_, ?_⟩, by rw [Rs.zero_add]; exact o5⟩
                  · show upd m.B b _ b = some (.ins (m.g.ca c) dx2 (ob.ns.zip ws))
                    rw [upd_same, l3.1, hc]
                  · have lm : m.le ⟨m.g, m.wa, upd m.B b (.ins (n2.g.ca ob.c) dx2 (ob.ns.zip ws))⟩ := ⟨rfl, List.prefix_refl _, sm⟩
                    exact (x4.mono lm).wa hcc.2
                  · rw [hkk, ← hl.len, ← x4.len]
theorem sf_makeZ {c : Str} (G : GC X.prog X.w X.K X.mg X.base x (g.ca c) k ps (spF g.toGd [] F)) (hr : Room (k + 1) X.A) (tk : Takes X W) (ha : SA X g W p (e :: es) ms) (hg : Gl X x := by rfl) (hdb : (x == ("__debug__" : Str)) = false := by decide)
    (he : starEach (e :: es) X.env = (false, eval e X.env) :: starEach es X.env := by rfl) (hpl : (backTo pos (starEach es X.env)).any (·.1) = false := by rfl) (hbx : c ≠ bxN := by decide) : SE X g W .F p (.Call (.Name x q) (e :: es) [] pos) (mMakeZ c F ms) :=
  PE.imp (pe_makeG G hr tk ha hg hdb he hpl) fun σ H Q h => makeZ_core hbx (fun _ _ _ z => z) h
theorem sf_makeZ0 {c : Str} (G : GC X.prog X.w X.K X.mg X.base x (g.ca c) k ps (spF g.toGd [] F)) (hr : Room (k + 1) X.A) (tk : Takes X W) (hg : Gl X x := by rfl) (hdb : (x == ("__debug__" : Str)) = false := by decide) (hbx : c ≠ bxN := by decide) : SE X g W .F true (.Call (.Name x q) [] [] pos) (mMakeZ c F mNil) :=
  PE.imp (pe_makeG0 G hr tk hg hdb) fun σ H Q h => makeZ_core hbx (p := true) (ms := mNil) (t := tNil) (fun σ H Q ⟨n, pn, s, R, Mr, pr, q⟩ => q n R H (En.le.refl n) (fun _ => ⟨rfl, rfl, rfl⟩) pr.2.1 [] ⟨rfl, rfl⟩ pr.2.2) h
end
end Mi

namespace Mi
open PySem PySem.Spec PyProof.Rows Hk
open L2 hiding Takes XE CX takes_of passes_call MkP PMk ps_raise mk_of ps_try_as passAt pmk_own
open L2N (Takes XE CX takes_of passes_call MkP PMk ps_raise mk_of ps_try_as passAt pmk_own)
/-! ## places: a slot or an attribute, and the way within its lists and dicts -/
inductive Rt where
  | sl (i : Nat) | fl (k : Nat) (f : Str) | ob (k : Nat)
structure Lo where
  rt : Rt
  path : List Nat
def getP : List Nat → D → Option D
  | [], d => some d
  | i :: p, .lst .o ds => (ds[i]?).bind (getP p)
  | i :: p, .dic true _ ds => (ds[i]?).bind (getP p)
  | _, _ => none
def setP : List Nat → D → D → D
  | [], d', _ => d'
  | i :: p, d', .lst .o ds => (match ds[i]? with
    | some d => .lst .o (ds.set i (setP p d' d))
    | none => .lst .o ds)
  | i :: p, d', .dic true ks ds => (match ds[i]? with
    | some d => .dic true ks (ds.set i (setP p d' d))
    | none => .dic true ks ds)
  | _, _, d => d
def stepV (H : Hp) (i : Nat) : V → Option V
  | .ref a => (match H a with
    | some (.lst vs) => vs[i]?
    | some (.dK kvs) => (kvs[i]?).map (·.2)
    | _ => none)
  | _ => none
def valP (H : Hp) : List Nat → V → Option V
  | [], v => some v
  | i :: p, v => (stepV H i v).bind (valP H p)
/-- the tree of a box, on a way -/
def boxP (p : List Nat) (ob : Ob) : Option D := if ob.c = bxN then (match ob.ds with
  | [d] => getP p d
  | _ => none) else none
def boxS (p : List Nat) (d' : D) (ob : Ob) : Ob := match ob.ds with
  | [d] => ⟨bxN, [], [setP p d' d]⟩
  | _ => ob
def getL (s : MS) (l : Lo) : Option D := match l.rt with
  | .sl i => (match s.fr[i]? with
    | some (some d) => getP l.path d
    | _ => none)
  | .fl k f => (match getOb s k with
    | some ob => (look f ob.ns ob.ds).bind (getP l.path)
    | none => none)
  | .ob k => (match getOb s k with
    | some ob => boxP l.path ob
    | none => none)
def setL (s : MS) (l : Lo) (d' : D) : MS := match l.rt with
  | .sl i => (match s.fr[i]? with
    | some (some d) => setFr s i (setP l.path d' d)
    | _ => s)
  | .fl k f => (match getOb s k with
    | some ob => (match look f ob.ns ob.ds with
      | some d => setOb s k ⟨ob.c, ob.ns, edit f (setP l.path d' d) ob.ns ob.ds⟩
      | none => s)
    | none => s)
  | .ob k => (match getOb s k with
    | some ob => setOb s k (boxS l.path d' ob)
    | none => s)
def valL (H : Hp) (σ : L2.St) (wa : List Addr) (l : Lo) : Option V := match l.rt with
  | .sl i => (match σ[i]? with
    | some (some v) => valP H l.path v
    | _ => none)
  | .fl k f => (match wa[k]? with
    | some a => (match H a with
      | some (.ins _ _ fs) => (fs.lookup f).bind (valP H l.path)
      | _ => none)
    | none => none)
  | .ob k => (match wa[k]? with
    | some a => valP H l.path (.ref a)
    | none => none)
def Lo.push (l : Lo) (j : Nat) : Lo := ⟨l.rt, l.path ++ [j]⟩
theorem stepV_l {H : Hp} {a : Addr} {vs : List V} {i : Nat} (e : H a = some (.lst vs)) : stepV H i (.ref a) = vs[i]? := by
  unfold stepV
  dsimp only
  rw [e]
theorem stepV_d {H : Hp} {a : Addr} {kvs : List (Key × V)} {i : Nat} (e : H a = some (.dK kvs)) : stepV H i (.ref a) = (kvs[i]?).map (·.2) := by
  unfold stepV
  dsimp only
  rw [e]
theorem valP_snoc {H : Hp} {j : Nat} : ∀ {p : List Nat} {v : V}, valP H (p ++ [j]) v = (valP H p v).bind (stepV H j)
  | [], v => by
    show (stepV H j v).bind (valP H []) = (some v).bind (stepV H j)
    have : (some v).bind (stepV H j) = stepV H j v := rfl
    rw [this]
    cases stepV H j v <;> rfl
  | i :: p, v => by
    show (stepV H i v).bind (valP H (p ++ [j])) = ((stepV H i v).bind (valP H p)).bind (stepV H j)
    cases stepV H i v with
    | none => rfl
    | some w => exact valP_snoc (p := p) (v := w)
theorem valL_push {H : Hp} {σ : L2.St} {wa : List Addr} {l : Lo} {j : Nat} {v : V} (h : valL H σ wa l = some v) : valL H σ wa (l.push j) = stepV H j v := by
  obtain ⟨rt, p⟩ := l
  cases rt with
  | sl i =>
    unfold valL at h ⊢
    dsimp only [Lo.push] at h ⊢
    cases e : σ[i]? with
    | none => rw [e] at h; cases h
    | some o =>
      cases o with
      | none => rw [e] at h; cases h
      | some w =>
        rw [e] at h
        dsimp only at h ⊢
        rw [valP_snoc, h]
        rfl
  | fl k f =>
    unfold valL at h ⊢
    dsimp only [Lo.push] at h ⊢
    cases e : wa[k]? with
    | none => rw [e] at h; cases h
    | some a =>
      rw [e] at h
      dsimp only at h ⊢
      cases e2 : H a with
      | none => rw [e2] at h; cases h
      | some o =>
        rw [e2] at h
        cases o <;> first | (cases h; done) | skip
        dsimp only at h ⊢
        rename_i fs
        cases e3 : fs.lookup f with
        | none => rw [e3] at h; cases h
        | some w =>
          rw [e3] at h
          have h : valP H p w = some v := h
          show valP H (p ++ [j]) w = _
          rw [valP_snoc, h]
          rfl
  | ob k =>
    unfold valL at h ⊢
    dsimp only [Lo.push] at h ⊢
    cases e : wa[k]? with
    | none => rw [e] at h; cases h
    | some a =>
      rw [e] at h
      dsimp only at h ⊢
      rw [valP_snoc, h]
      rfl
theorem EncL.pick {n : En} : ∀ {ds : List D} {vs : List V} {r : Rs} {i : Nat} {d : D}, EncL n ds vs r → ds[i]? = some d →
    ∃ v ri rest, vs[i]? = some v ∧ r = ri + rest ∧ Enc n d v ri ∧ ∀ m d' ri', n.le m → Enc m d' v ri' → EncL m (ds.set i d') vs (ri' + rest)
  | [], _, _, _, _, _, e => by simp at e
  | d :: ds, _, _, 0, _, h, e => by
    obtain ⟨v, vs', r1, r2, rfl, rfl, h1, h2⟩ := h
    obtain rfl := Option.some.inj e
    exact ⟨v, r1, r2, rfl, rfl, h1, fun m d' ri' l x => ⟨v, vs', ri', r2, rfl, rfl, x, h2.mono l⟩⟩
  | d :: ds, _, _, i + 1, _, h, e => by
    obtain ⟨v, vs', r1, r2, rfl, rfl, h1, h2⟩ := h
    obtain ⟨w, ri, rest, e1, rfl, x, k⟩ := EncL.pick (i := i) h2 e
    exact ⟨w, ri, r1 + rest, e1, by ac_rfl, x, fun m d' ri' l x' => ⟨v, vs', r1, ri' + rest, rfl, by ac_rfl, h1.mono l, k m d' ri' l x'⟩⟩
theorem EncL.setN {n : En} {dv : D} {vv : V} {rv : Rs} (xv : Enc n dv vv rv) : ∀ {ds : List D} {vs : List V} {r : Rs} {j : Nat}, EncL n ds vs r → j < ds.length → ∃ r' old, EncL n (ds.set j dv) (vs.set j vv) r' ∧ rv + r = old + r'
  | [], _, _, _, _, e => absurd e (by simp)
  | d :: ds, _, _, 0, h, _ => by
    obtain ⟨v, vs', r1, r2, rfl, rfl, h1, h2⟩ := h
    exact ⟨rv + r2, r1, ⟨vv, vs', rv, r2, rfl, rfl, xv, h2⟩, by ac_rfl⟩
  | d :: ds, _, _, j + 1, h, e => by
    obtain ⟨v, vs', r1, r2, rfl, rfl, h1, h2⟩ := h
    obtain ⟨r', old, x, e1⟩ := EncL.setN xv (j := j) h2 (by simpa using e)
    exact ⟨r1 + r', old, ⟨v, _, r1, r', rfl, rfl, h1, x⟩, by rw [show rv + (r1 + r2) = r1 + (rv + r2) by ac_rfl, e1]; ac_rfl⟩
theorem zip_at {α β : Type} : ∀ {ks : List α} {vs : List β} {i : Nat} {v : β}, ks.length = vs.length → vs[i]? = some v → ((ks.zip vs)[i]?).map (·.2) = some v
  | [], vs, i, v, hl, e => by
    cases vs with
    | nil => simp at e
    | cons _ _ => cases hl
  | k :: ks, [], _, _, hl, _ => by cases hl
  | k :: ks, w :: vs, 0, v, hl, e => by
    obtain rfl := Option.some.inj e
    rfl
  | k :: ks, w :: vs, i + 1, v, hl, e => by
    rw [List.zip_cons_cons]
    exact zip_at (i := i) (by simpa using hl) e
/-- the place within a tree -/
theorem Enc.focus {n : En} : ∀ {p : List Nat} {d d1 : D} {v : V} {r : Rs}, Enc n d v r → getP p d = some d1 →
    ∃ v1 r1 rest, r = r1 + rest ∧ Enc n d1 v1 r1 ∧ (∀ B M' H', Ok B (r + M') H' → valP H' p v = some v1) ∧ ∀ m d1' r1', n.le m → Enc m d1' v1 r1' → Enc m (setP p d1' d) v (r1' + rest)
  | [], d, d1, v, r, h, e => by
    cases e
    exact ⟨v, r, 0, (Rs.add_zero r).symm, h, fun _ _ _ _ => rfl, fun m d1' r1' l x => by rw [Rs.add_zero]; exact x⟩
  | i :: p, d, d1, v, r, h, e => by
    cases d <;> first | (cases e; done) | skip
    · rename_i md ds
      cases md <;> first | (cases e; done) | skip
      have e : (ds[i]?).bind (getP p) = some d1 := e
      cases ei : ds[i]? with
      | none => rw [ei] at e; cases e
      | some d0 =>
        rw [ei] at e
        have e : getP p d0 = some d1 := e
        obtain ⟨a, vs, r', rfl, rfl, hl⟩ := h
        obtain ⟨w, ri, rest0, ew, rfl, x, k⟩ := hl.pick ei
        obtain ⟨v1, r1, rest, rfl, x1, hv, k1⟩ := Enc.focus x e
        refine ⟨v1, r1, Rs.one a (.lst vs) + rest0 + rest, by ac_rfl, x1, fun B M' H' o => ?_, fun m d1' r1' l y => ?_⟩
        · have ea : H' a = some (.lst vs) := o.at ⟨r1 + rest + rest0 + M', by ac_rfl⟩
          show (stepV H' i (.ref a)).bind (valP H' p) = some v1
          rw [stepV_l ea, ew]
          exact hv B (Rs.one a (.lst vs) + rest0 + M') H' (o.cast (by ac_rfl))
        · have ep : setP (i :: p) d1' (.lst .o ds) = .lst .o (ds.set i (setP p d1' d0)) := by
            show (match ds[i]? with | some d => D.lst .o (ds.set i (setP p d1' d)) | none => .lst .o ds) = _
            rw [ei]
          rw [ep]
          exact ⟨a, vs, r1' + rest + rest0, rfl, by ac_rfl, k m _ _ l (k1 m d1' r1' l y)⟩
    · rename_i ow ks ds
      cases ow <;> first | (cases e; done) | skip
      have e : (ds[i]?).bind (getP p) = some d1 := e
      cases ei : ds[i]? with
      | none => rw [ei] at e; cases e
      | some d0 =>
        rw [ei] at e
        have e : getP p d0 = some d1 := e
        obtain ⟨a, vs, r', rfl, rfl, hl, hk⟩ := h
        obtain ⟨w, ri, rest0, ew, rfl, x, k⟩ := hl.pick ei
        obtain ⟨v1, r1, rest, rfl, x1, hv, k1⟩ := Enc.focus x e
        refine ⟨v1, r1, Rs.one a (.dK (ks.zip vs)) + rest0 + rest, by ac_rfl, x1, fun B M' H' o => ?_, fun m d1' r1' l y => ?_⟩
        · have ea : H' a = some (.dK (ks.zip vs)) := o.at ⟨r1 + rest + rest0 + M', by ac_rfl⟩
          show (stepV H' i (.ref a)).bind (valP H' p) = some v1
          rw [stepV_d ea, zip_at (hk.trans hl.len.symm) ew]
          exact hv B (Rs.one a (.dK (ks.zip vs)) + rest0 + M') H' (o.cast (by ac_rfl))
        · have ep : setP (i :: p) d1' (.dic true ks ds) = .dic true ks (ds.set i (setP p d1' d0)) := by
            show (match ds[i]? with | some d => D.dic true ks (ds.set i (setP p d1' d)) | none => .dic true ks ds) = _
            rw [ei]
          rw [ep]
          exact ⟨a, vs, r1' + rest + rest0, rfl, by ac_rfl, k m _ _ l (k1 m d1' r1' l y), by rw [List.length_set]; exact hk⟩
/-- the place of a state -/
theorem RelS.focus {n : En} {ct : Ct} {s : MS} {σ : L2.St} {R : Rs} {l : Lo} {d : D} (h : RelS n ct s σ R) (e : getL s l = some d) :
    ∃ v ri rest, R = ri + rest ∧ Enc n d v ri ∧ (∀ B M' H', Ok B (R + M') H' → valL H' σ n.wa l = some v) ∧ ∀ m d' ri', n.le m → m.wa = n.wa → Enc m d' v ri' → RelS m ct (setL s l d') σ (ri' + rest) := by
  obtain ⟨rt, p⟩ := l
  cases rt with
  | sl i =>
    unfold getL at e
    dsimp only at e
    cases ef : s.fr[i]? with
    | none => rw [ef] at e; cases e
    | some o =>
      cases o with
      | none => rw [ef] at e; cases e
      | some d0 =>
        rw [ef] at e
        obtain ⟨v0, r0, rest0, e1, rfl, x, k⟩ := h.take ef
        obtain ⟨v1, r1, rest, rfl, x1, hv, k1⟩ := x.focus e
        refine ⟨v1, r1, rest + rest0, by ac_rfl, x1, fun B M' H' o => ?_, fun m d' ri' l w y => ?_⟩
        · unfold valL
          dsimp only
          rw [e1]
          exact hv B (rest0 + M') H' (o.cast (by ac_rfl))
        · unfold setL
          dsimp only
          rw [ef]
          have := k m _ _ l w (k1 m d' ri' l y)
          rw [← Rs.add_assoc]
          exact this
  | fl j f =>
    unfold getL at e
    dsimp only at e
    cases eo : getOb s j with
    | none => rw [eo] at e; cases e
    | some ob =>
      rw [eo] at e
      dsimp only at e
      cases el : look f ob.ns ob.ds with
      | none => rw [el] at e; cases e
      | some d0 =>
        rw [el] at e
        have e : getP p d0 = some d := e
        obtain ⟨a, ra, resta, ea, xo, rfl, kk⟩ := h.ob eo
        have hnb : ob.c ≠ bxN := fun z => by
          obtain ⟨hn, d1, hd1, _⟩ := xo.box z
          rw [hn] at el
          cases hdd : ob.ds <;> rw [hdd] at el <;> cases el
        obtain ⟨dx, vs, r', rfl, hl, hk⟩ := xo.ins hnb
        obtain ⟨w, rw', rest0, ew, x, rfl, k⟩ := edit_ok hl el
        obtain ⟨v1, r1, rest, rfl, x1, hv, k1⟩ := x.focus e
        refine ⟨v1, r1, Rs.one a (.ins (n.g.ca ob.c) dx (ob.ns.zip vs)) + rest + rest0 + resta, by ac_rfl, x1, fun B M' H' o => ?_, fun m d' ri' l w2 y => ?_⟩
        · unfold valL
          dsimp only
          rw [ea]
          dsimp only
          rw [o.at (a := a) (o := .ins (n.g.ca ob.c) dx (ob.ns.zip vs)) ⟨r1 + rest + rest0 + resta + M', by ac_rfl⟩]
          dsimp only
          rw [ew]
          exact hv B (Rs.one a (.ins (n.g.ca ob.c) dx (ob.ns.zip vs)) + rest0 + resta + M') H' (o.cast (by ac_rfl))
        · unfold setL
          dsimp only
          rw [eo]
          dsimp only
          rw [el]
          dsimp only
          have y2 := k m _ _ l (k1 m d' ri' l y)
          have := kk m ⟨ob.c, ob.ns, edit f (setP p d' d0) ob.ns ob.ds⟩ (Rs.one a (.ins (m.g.ca ob.c) dx (ob.ns.zip vs)) + (ri' + rest + rest0)) l w2 (.inl ⟨hnb, dx, vs, _, rfl, y2, by rw [edit_len]; exact hk⟩)
          rw [l.1] at this
          rw [show ri' + (Rs.one a (.ins (n.g.ca ob.c) dx (ob.ns.zip vs)) + rest + rest0 + resta) = Rs.one a (.ins (n.g.ca ob.c) dx (ob.ns.zip vs)) + (ri' + rest + rest0) + resta by ac_rfl]
          exact this
  | ob j =>
    unfold getL at e
    dsimp only at e
    cases eo : getOb s j with
    | none => rw [eo] at e; cases e
    | some ob =>
      rw [eo] at e
      dsimp only at e
      unfold boxP at e
      by_cases hc : ob.c = bxN
      · rw [if_pos hc] at e
        obtain ⟨a, ra, resta, ea, xo, rfl, kk⟩ := h.ob eo
        obtain ⟨hn, d0, hd, x⟩ := xo.box hc
        rw [hd] at e
        have e : getP p d0 = some d := e
        obtain ⟨v1, r1, rest, rfl, x1, hv, k1⟩ := x.focus e
        refine ⟨v1, r1, rest + resta, by ac_rfl, x1, fun B M' H' o => ?_, fun m d' ri' l w2 y => ?_⟩
        · unfold valL
          dsimp only
          rw [ea]
          exact hv B (resta + M') H' (o.cast (by ac_rfl))
        · unfold setL
          dsimp only
          rw [eo]
          dsimp only
          have eb : boxS p d' ob = ⟨bxN, [], [setP p d' d0]⟩ := by
            unfold boxS
            rw [hd]
          rw [eb]
          have := kk m ⟨bxN, [], [setP p d' d0]⟩ (ri' + rest) l w2 (.inr ⟨rfl, rfl, _, rfl, k1 m d' ri' l y⟩)
          rw [← Rs.add_assoc]
          exact this
      · rw [if_neg hc] at e; cases e
section
variable {X : Cx} {g : Gj} {W : WX} {p pa pb po : Bool} {a b e o tg : Expr} {es : List Expr} {ma mb mo m mi : M D} {ml : M Lo} {ms : M (List D)} {pos q apos : Pos}
def finL (σ : L2.St) (Mr : Rs) (Q : VK) : Lo → En → Rs → Hp → Prop := fun l n R H => ∀ v, (∀ B M' H', Ok B (R + M') H' → valL H' σ n.wa l = some v) → Ok n.B (R + Mr) H → Q v H
def tL (g : Gj) (W : WX) (ml : M Lo) : TE := fun σ H Q => ∃ n ct s R Mr, Pre g n ct s σ R Mr H ∧ Post g W true ct n s σ R Mr (finL σ Mr Q) (ml s)
def SP (X : Cx) (g : Gj) (W : WX) (e : Expr) (ml : M Lo) : Prop := PE X e (tL g W ml)
def mlSlot (i : Nat) : M Lo := fun s => match s.fr[i]? with
  | some (some _) => .ok ⟨.sl i, []⟩ s
  | _ => .bad
theorem sp_slot {i : Nat} (h : PE X e (tVar i)) : SP X g W e (mlSlot i) :=
  PE.imp h fun σ H Q ⟨n, ct, s, R, Mr, pr, q⟩ => by
    unfold mlSlot at q
    cases hm : s.fr[i]? with
    | none => rw [hm] at q; exact False.elim q
    | some o =>
      cases o with
      | none => rw [hm] at q; exact False.elim q
      | some d =>
        rw [hm] at q
        obtain ⟨v, ri, rest, e1, er, x, k⟩ := pr.2.1.take hm
        refine ⟨v, e1, q n R H (En.le.refl n) (fun _ => ⟨rfl, rfl, rfl⟩) pr.2.1 v (fun B M' H' o => ?_) pr.2.2⟩
        unfold valL
        dsimp only
        rw [e1]
        rfl
/-- a list or a dict with an identity -/
def mlObj (mo : M D) : M Lo := fun s => (mo s).bind fun d s1 => match d with
  | .obj k => (match getOb s1 k with
    | some ob => if (boxP [] ob).isSome = true then .ok ⟨.ob k, []⟩ s1 else .bad
    | none => .bad)
  | _ => .bad
theorem sp_obj (ha : SE X g W .E true e mo) : SP X g W e (mlObj mo) :=
  PE.imp ha fun σ H Q ⟨n, ct, s, R, Mr, pr, q⟩ => by
    unfold mlObj at q
    refine ⟨n, ct, s, R, Mr, pr, ?_⟩
    cases hm : mo s with
    | bad => rw [hm] at q; exact q
    | er e s' => rw [hm] at q; exact q
    | ok d s1 =>
      rw [hm, Rz.bind_ok] at q
      intro n1 R1 H1 l1 e1 rl1 v o1
      obtain ⟨T, r, x, u, o1⟩ := o1
      cases d <;> first | (exact False.elim q; done) | skip
      rename_i k
      dsimp only at q
      cases eo : getOb s1 k with
      | none => rw [eo] at q; exact False.elim q
      | some ob =>
        rw [eo] at q
        dsimp only at q
        by_cases hb : (boxP [] ob).isSome = true
        · rw [if_pos hb] at q
          obtain ⟨rfl, a, rfl, ea⟩ := x
          refine q n1 R1 H1 l1 e1 rl1 (.ref a) (fun B M' H' o => ?_) o1.drop
          unfold valL
          dsimp only
          rw [ea]
          rfl
        · rw [if_neg hb] at q; exact False.elim q
def mlFld (c f : Str) (mo : M D) : M Lo := fun s => (mo s).bind fun d s1 => match d with
  | .obj k => (match getOb s1 k with
    | some ob => if (decide (ob.c = c) && (look f ob.ns ob.ds).isSome) = true then .ok ⟨.fl k f, []⟩ s1 else .bad
    | none => .bad)
  | _ => .bad
theorem sp_fld {c f : Str} (hK : X.K = g.K) (hc : Cls g.K (g.ca c)) (hn : NoAttr g.K (g.ca c) f) (ha : SE X g W .E true e mo) (hb : attributeBase e f X.env (eval e X.env) = eval e X.env := by rfl) : SP X g W (.Attribute e f pos) (mlFld c f mo) :=
  PE.imp (pe_fldK (K := g.K) ha hb hK) fun σ H Q ⟨n, ct, s, R, Mr, pr, q⟩ => by
    unfold mlFld at q
    refine ⟨n, ct, s, R, Mr, pr, ?_⟩
    cases hm : mo s with
    | bad => rw [hm] at q; exact q
    | er e s' => rw [hm] at q; exact q
    | ok d s1 =>
      rw [hm, Rz.bind_ok] at q
      intro n1 R1 H1 l1 e1 rl1 v o1
      obtain ⟨T, r, x, u, o1⟩ := o1
      cases d <;> first | (exact False.elim q; done) | skip
      rename_i j
      dsimp only at q
      cases eo : getOb s1 j with
      | none => rw [eo] at q; exact False.elim q
      | some ob =>
        rw [eo] at q
        dsimp only at q
        cases hcc : (decide (ob.c = c) && (look f ob.ns ob.ds).isSome) with
        | false => rw [hcc] at q; exact False.elim q
        | true =>
          rw [hcc, if_pos rfl] at q
          rw [Bool.and_eq_true] at hcc
          have hce := of_decide_eq_true hcc.1
          obtain ⟨d', el⟩ := Option.isSome_iff_exists.mp hcc.2
          obtain ⟨rfl, a, rfl, ea⟩ := x
          obtain ⟨a', ra, resta, ea', xo, er, kk⟩ := rl1.ob eo
          rw [ea] at ea'
          cases ea'
          have hnb : ob.c ≠ bxN := fun z => by
            obtain ⟨hn, d1, hd1, _⟩ := xo.box z
            rw [hn] at el
            cases hdd : ob.ds <;> rw [hdd] at el <;> cases el
          obtain ⟨dx, vs, r', rfl, hl, hk⟩ := xo.ins hnb
          obtain ⟨w, rw', rest0, ew, x, er2⟩ := look_ok hl el
          have hg : n1.g.ca = g.ca := by rw [(pg l1 pr.1).1]
          have eh : H1 a = some (.ins (n1.g.ca ob.c) dx (ob.ns.zip vs)) := o1.at ⟨T + (r' + resta + Mr), by rw [er]; ac_rfl⟩
          rw [hg, hce] at eh
          refine ⟨a, _, dx, _, w, rfl, eh, hc, hn, ew, q n1 R1 H1 l1 e1 rl1 w (fun B M' H' o => ?_) o1.drop⟩
          unfold valL
          dsimp only
          rw [ea]
          dsimp only
          rw [o.at (a := a) (o := .ins (n1.g.ca ob.c) dx (ob.ns.zip vs)) ⟨r' + resta + M', by rw [er]; ac_rfl⟩]
          dsimp only
          rw [ew]
          rfl
def mlIx (ml : M Lo) (mi : M D) : M Lo := fun s => (ml s).bind fun l s1 => (mi s1).bind fun d s2 => match getL s2 l, d with
  | some (.lst .o ds), .int i => (match ixN ds.length i with
    | some j => if j < ds.length then .ok (l.push j) s2 else .bad
    | none => .bad)
  | _, _ => .bad
/-- the place, when the index stands -/
theorem sp_ix (ho : IxR X (rIxL g.K)) (ha : SP X g W a ml) (hb : SE X g W .E true b mi) (hs : PlainIx b) : SP X g W (.Subscript a b pos) (mlIx ml mi) :=
  PE.imp (pe_ix ho ha hb hs) fun σ H Q ⟨n, ct, s, R, Mr, pr, q⟩ => by
    unfold mlIx at q
    refine ⟨n, ct, s, R, Mr, pr, ?_⟩
    cases hm : ml s with
    | bad => rw [hm] at q; exact q
    | er e s' => rw [hm] at q; exact q
    | ok l s1 =>
      rw [hm, Rz.bind_ok] at q
      intro n1 R1 H1 l1 e1 rl1 v hv o1
      obtain ⟨w1, rfl, rfl⟩ := e1 rfl
      refine ⟨n1, ct, s1, R1, Mr, ⟨pg l1 pr.1, rl1, o1⟩, ?_⟩
      cases hm2 : mi s1 with
      | bad => rw [hm2] at q; exact q
      | er e s' => rw [hm2] at q; exact fun n2 R2 H2 l2 r2 o2 => q n2 R2 H2 (l1.trans l2) r2 o2
      | ok d s2 =>
        rw [hm2, Rz.bind_ok] at q
        intro n2 R2 H2 l2 e2 rl2 v2 o2
        obtain ⟨t2, r2, x2, u2, o2⟩ := o2
        obtain ⟨w2, rfl, rfl⟩ := e2 rfl
        cases eg : getL s2 l with
        | none => rw [eg] at q; exact False.elim q
        | some c =>
          rw [eg] at q
          cases c <;> first | (exact False.elim q; done) | skip
          rename_i md ds
          cases md <;> first | (exact False.elim q; done) | skip
          cases d <;> first | (exact False.elim q; done) | skip
          rename_i i
          dsimp only at q
          obtain ⟨rfl, rfl⟩ := x2
          cases ej : ixN ds.length i with
          | none => rw [ej] at q; exact False.elim q
          | some j =>
            rw [ej] at q
            dsimp only at q
            by_cases hj : j < ds.length
            · rw [if_pos hj] at q
              obtain ⟨w, ri, rest, er, xc, hw, kk⟩ := rl2.focus eg
              have ev : w = v := by
                have h1 := hw n2.B (t2 + Mr) H2 (o2.cast (by ac_rfl))
                have h2 := hv n2.B (t2 + Mr) H2 (o2.cast (by ac_rfl))
                rw [w2] at h1
                rw [h1] at h2
                exact Option.some.inj h2
              subst ev
              obtain ⟨a', vs, r', rfl, rfl, hl⟩ := xc
              have hjv : j < vs.length := by rw [hl.len]; exact hj
              have eh : H2 a' = some (.lst vs) := o2.at ⟨t2 + (r' + rest + Mr), by rw [er]; ac_rfl⟩
              refine ⟨a', vs, i, vs[j], rfl, rfl, .inl (.inl eh), ?_, q n2 R2 H2 (l1.trans l2) (fun _ => ⟨w2.trans w1, rfl, rfl⟩) rl2 vs[j] (fun B M' H' o => ?_) o2.drop⟩
              · unfold atI
                rw [hl.len, ej]
                exact List.getElem?_eq_getElem hjv
              · rw [valL_push (hw B M' H' o)]
                rw [stepV_l (o.at (a := a') (o := .lst vs) ⟨r' + rest + M', by rw [er]; ac_rfl⟩)]
                exact List.getElem?_eq_getElem hjv
            · rw [if_neg hj] at q
              exact False.elim q
/-! ### a place's tree is frozen -/
def mPlF (ml : M Lo) : M D := fun s => (ml s).bind fun l s1 => match getL s1 l with
  | some d => .ok (frz d) (setL s1 l (frz d))
  | none => .bad
theorem se_plF (h : SP X g W e ml) : SE X g W .C false e (mPlF ml) :=
  PE.imp h fun σ H Q ⟨n, ct, s, R, Mr, pr, q⟩ => by
    unfold mPlF at q
    refine ⟨n, ct, s, R, Mr, pr, ?_⟩
    cases hm : ml s with
    | bad => rw [hm] at q; exact q
    | er e s' => rw [hm] at q; exact q
    | ok l s1 =>
      rw [hm, Rz.bind_ok] at q
      intro n1 R1 H1 l1 e1 rl1 v hv o1
      cases eg : getL s1 l with
      | none => rw [eg] at q; exact False.elim q
      | some d =>
        rw [eg] at q
        obtain ⟨w, ri, rest, rfl, x, hw, kk⟩ := rl1.focus eg
        have ev : w = v := by
          have h1 := hw n1.B Mr H1 o1
          rw [hv n1.B Mr H1 o1] at h1
          exact (Option.some.inj h1).symm
        subst ev
        obtain ⟨m', l', ew, h3, h4⟩ := x.frz (o1.cast (Rs.add_assoc _ _ _))
        exact q m' (0 + rest) H1 (l1.trans l') (fun z => absurd z Bool.false_ne_true) (kk m' _ 0 l' ew h3) w ⟨h3, by rw [Rs.zero_add]; exact h4⟩
/-! ### a place's list is changed -/
def mMutP (ml : M Lo) (f : List D → List D → Option (D × List D)) (ms : M (List D)) : M D := fun s => (ml s).bind fun l s1 => match getL s1 l with
  | some (.lst .o ds) => (ms s1).bind fun args s2 => (match f ds args with
    | some (d, ds') => .ok d (setL s2 l (.lst .o ds'))
    | none => .bad)
  | _ => .bad
theorem mutP_core {r : V → List V → Hp → VK → Prop} {f : List D → List D → Option (D × List D)} {t : TA} (hf : MutS g.toGd r f) (ht : ∀ σ H Q, tA g W true ms σ H Q → t σ H Q) (hK : X.K = g.K) (σ : L2.St) (H : Hp) (Q : VK) (h : tE g W .F false (mMutP ml f ms) σ H Q) :
    (tL g W ml) σ H fun x H1 => tyV X.K "list" x H1 ∧ t σ H1 fun xs H2 => r x xs H2 Q := by
  obtain ⟨n, ct, s, R, Mr, pr, q⟩ := h
  unfold mMutP at q
  refine ⟨n, ct, s, R, Mr, pr, ?_⟩
  cases hm : ml s with
  | bad => rw [hm] at q; exact q
  | er e s' => rw [hm] at q; exact q
  | ok l s1 =>
    rw [hm, Rz.bind_ok] at q
    intro n1 R1 H1 l1 e1 rl1 v hv o1
    cases eg : getL s1 l with
    | none => rw [eg] at q; exact False.elim q
    | some c =>
      rw [eg] at q
      cases c <;> first | (exact False.elim q; done) | skip
      rename_i md ds
      cases md <;> first | (exact False.elim q; done) | skip
      dsimp only at q
      obtain ⟨w, ri, rest, er, xc, hw, kk⟩ := rl1.focus eg
      have ev : w = v := by
        have h1 := hw n1.B Mr H1 o1
        rw [hv n1.B Mr H1 o1] at h1
        exact (Option.some.inj h1).symm
      subst ev
      obtain ⟨a0, vs0, r0, rfl, rfl, hl0⟩ := xc
      have eh : H1 a0 = some (.lst vs0) := o1.at ⟨r0 + rest + Mr, by rw [er]; ac_rfl⟩
      refine ⟨.inl ⟨rfl, vs0, .inl (.inl eh)⟩, ht σ H1 _ ⟨n1, ct, s1, R1, Mr, ⟨pg l1 pr.1, rl1, o1⟩, ?_⟩⟩
      cases hm2 : ms s1 with
      | bad => rw [hm2] at q; exact q
      | er e s' => rw [hm2] at q; exact fun n2 R2 H2 l2 r2 o2 => q n2 R2 H2 (l1.trans l2) r2 o2
      | ok args s2 =>
        rw [hm2, Rz.bind_ok] at q
        intro n2 R2 H2 l2 e2 rl2 avs xa o2
        obtain ⟨w2, rfl, rfl⟩ := e2 rfl
        obtain ⟨w', ri', rest', er', xc', hw', kk'⟩ := rl2.focus eg
        have ev : w' = .ref a0 := by
          have h1 := hw' n2.B Mr H2 o2
          rw [w2, hv n2.B Mr H2 o2] at h1
          exact (Option.some.inj h1).symm
        subst ev
        obtain ⟨a', vs, r', ea, rfl, hl⟩ := xc'
        cases ea
        cases hfd : f ds args with
        | none => rw [hfd] at q; exact False.elim q
        | some pr' =>
          obtain ⟨d, ds'⟩ := pr'
          rw [hfd] at q
          dsimp only at q
          refine hf n2 ds a0 vs r' args avs (rest' + Mr) H2 Q d ds' (pg l2 (pg l1 pr.1)).1 hl xa (o2.cast (by rw [er']; ac_rfl)) hfd fun n3 v rn rl H3 l3 w3 xl xd o3 => ?_
          exact q n3 (rl + rest') H3 (l1.trans (l2.trans l3)) (fun z => absurd z Bool.false_ne_true) (kk' n3 _ rl l3 w3 xl) v ⟨rn, xd, o3.cast (by ac_rfl)⟩
theorem sf_mutP {name : Str} {id : String} {f : List D → List D → Option (D × List D)} {r : V → List V → Hp → VK → Prop} {cpos : Pos} (hK : X.K = g.K) (hv : SP X g W o ml) (slot : Slot "list" name id) (hty : typeOf (.builtin id) = pure (.type "method_descriptor")) (hm : MtR X id r) (hf : MutS g.toGd r f)
    (ha : SA X g W true (e :: es) ms)
    (hbase : attributeBase o name X.env (eval o X.env) = eval o X.env := by rfl)
    (hfew : ((backTo cpos (starEach (e :: es) X.env)).all (fun x => !x.1) && (backToKw cpos (keywordEach [] X.env)).all (fun x => x.1.isSome)
      && decide ((e :: es).length + ([] : List Keyword).length + (if ([] : List Keyword).isEmpty then 0 else 1) < 30)) = true := by rfl)
    (hline : (apos.endLine == cpos.line) = true := by rfl) (hs : starEach (e :: es) X.env = (false, eval e X.env) :: starEach es X.env := by rfl) (hplain : (backTo cpos (starEach es X.env)).any (·.1) = false := by rfl) :
    SE X g W .F false (.Call (.Attribute o name apos) (e :: es) [] cpos) (mMutP ml f ms) :=
  PE.imp (pe_bm PySem.F.plainAttrs_list slot hty hm hv ha hbase hfew hline hs hplain) fun σ H Q h => mutP_core hf (fun _ _ _ z => z) hK σ H Q h
theorem sf_mutP0 {name : Str} {id : String} {f : List D → List D → Option (D × List D)} {r : V → List V → Hp → VK → Prop} {cpos : Pos} (hK : X.K = g.K) (hv : SP X g W o ml) (slot : Slot "list" name id) (hty : typeOf (.builtin id) = pure (.type "method_descriptor")) (hm : MtR X id r) (hf : MutS g.toGd r f)
    (hbase : attributeBase o name X.env (eval o X.env) = eval o X.env := by rfl) (hline : (apos.endLine == cpos.line) = true := by rfl) :
    SE X g W .F false (.Call (.Attribute o name apos) [] [] cpos) (mMutP ml f mNil) :=
  PE.imp (pe_bm0 PySem.F.plainAttrs_list slot hty hm hv hbase hline) fun σ H Q h => mutP_core (t := tNil) hf (fun σ H Q ⟨n, pn, s, R, Mr, pr, q⟩ => q n R H (En.le.refl n) (fun _ => ⟨rfl, rfl, rfl⟩) pr.2.1 [] ⟨rfl, rfl⟩ pr.2.2) hK σ H Q h
/-! ### place[i] = e -/
/-- what a store does to the container: the tree behind, the container's cells -/
def SetS (g : Gd) (t : TSet) (f : D → D → D → Option D) : Prop := ∀ (n : En) (c : D) (v : V) (rc : Rs) (di : D) (vi : V) (ri : Rs) (dv : D) (vv : V) (rv : Rs) (c' : D) (T : Rs) (H : Hp) (Q : Hp → Prop), n.g = g → Enc n c v rc → Enc n di vi ri → Sub ri T → Enc n dv vv rv →
  Ok n.B (rv + rc + T) H → f c di dv = some c' → (∀ n' rc' H', n.le n' → n'.wa = n.wa → Enc n' c' v rc' → Ok n'.B (rc' + T) H' → Q H') → t v vi vv H Q
def mSetP (f : D → D → D → Option D) (ml : M Lo) (mi mv : M D) : M Fl := fun s => (mv s).bind fun dv s1 => (ml s1).bind fun l s2 => (mi s2).bind fun di s3 => if cp di = true then (match getL s3 l with
  | some c => (match f c di dv with
    | some c' => .ok .nx (setL s3 l c')
    | none => .bad)
  | none => .bad) else .bad
theorem ss_setP {i : Expr} {t : TSet} {f : D → D → D → Option D} {tpos : Pos} (hs : PSet X t) (hf : SetS g.toGd t f) (hv : SE X g W .F p e m) (ho : SP X g W o ml) (hi : SE X g W .E true i mi)
    (ha : ∀ v, assign (.Subscript o i tpos) X.env v = (do
      let ov ← holding [v] (eval o X.env)
      let iv ← holding [v, ov] (eval i X.env)
      standAt tpos
      holding [v, ov, iv] (setItem ov iv v)
      release [v, ov, iv] []) := by intro _; rfl)
    (hs1 : swapsWithSole [(.Subscript o i tpos : Expr)] e pos.line X.env = pure false := by rfl) (hw : swappedStores [(.Subscript o i tpos : Expr)] e X.env = pure none := by rfl)
    (h1 : (assignEach [(.Subscript o i tpos : Expr)] X.env).map (·.2) = [assign (.Subscript o i tpos) X.env] := by rfl) : SS X g W (.Assign [.Subscript o i tpos] e pos) (mSetP f ml mi m) :=
  PS.imp (ps_asg hv (pg_sub ho hi hs ha) hs1 hw h1) fun Dn σ H ⟨n, ct, s, R, Mr, pr, q⟩ => by
    unfold mSetP at q
    refine ⟨n, ct, s, R, Mr, pr, ?_⟩
    cases hm : m s with
    | bad => rw [hm] at q; exact q
    | er e s' => rw [hm] at q; exact fun n2 R2 H2 l2 r2 o2 => q n2 R2 H2 σ l2 r2 o2
    | ok dv s1 =>
      rw [hm, Rz.bind_ok] at q
      intro n1 R1 H1 l1 e1 rl1 vv o1
      obtain ⟨rv, xv, o1⟩ := o1
      refine ⟨n1, ct, s1, R1, rv + Mr, ⟨pg l1 pr.1, rl1, o1.cast (by ac_rfl)⟩, ?_⟩
      cases hm2 : ml s1 with
      | bad => rw [hm2] at q; exact q
      | er e s' => rw [hm2] at q; exact fun n2 R2 H2 l2 r2 o2 => q n2 R2 H2 σ (l1.trans l2) r2 ((o2.cast (show _ = rv + (R2 + Mr) by ac_rfl)).drop)
      | ok l s2 =>
        rw [hm2, Rz.bind_ok] at q
        intro n2 R2 H2 l2 e2 rl2 vc hvc o2
        obtain ⟨w2, rfl, rfl⟩ := e2 rfl
        refine ⟨n2, ct, s2, R2, rv + Mr, ⟨pg l2 (pg l1 pr.1), rl2, o2⟩, ?_⟩
        cases hm3 : mi s2 with
        | bad => rw [hm3] at q; exact q
        | er e s' => rw [hm3] at q; exact fun n3 R3 H3 l3 r3 o3 => q n3 R3 H3 σ (l1.trans (l2.trans l3)) r3 ((o3.cast (show _ = rv + (R3 + Mr) by ac_rfl)).drop)
        | ok di s3 =>
          rw [hm3, Rz.bind_ok] at q
          intro n3 R3 H3 l3 e3 rl3 vi o3
          obtain ⟨t3, ri, xi, ui, o3⟩ := o3
          obtain ⟨w3, rfl, rfl⟩ := e3 rfl
          cases hci : cp di with
          | false => rw [hci] at q; exact False.elim q
          | true =>
            rw [hci, if_pos rfl] at q
            cases eg : getL s3 l with
            | none => rw [eg] at q; exact False.elim q
            | some c =>
              rw [eg] at q
              dsimp only at q
              cases ef : f c di dv with
              | none => rw [ef] at q; exact False.elim q
              | some c' =>
                rw [ef] at q
                dsimp only at q
                obtain ⟨w, rc, rest, er, xc, hw, kk⟩ := rl3.focus eg
                have ev : w = vc := by
                  have h1 := hw n3.B (t3 + (rv + Mr)) H3 (o3.cast (by ac_rfl))
                  rw [w3, hvc n3.B (t3 + (rv + Mr)) H3 (o3.cast (by ac_rfl))] at h1
                  exact (Option.some.inj h1).symm
                subst ev
                have zi := xi.cp hci
                subst zi
                refine hf n3 c w rc di vi 0 dv vv rv c' (rest + Mr) H3 _ (pg l3 (pg l2 (pg l1 pr.1))).1 xc xi (Sub.zero _) (xv.mono (l2.trans l3)) ((o3.cast (show _ = t3 + (rv + rc + (rest + Mr)) by rw [er]; ac_rfl)).drop) ef fun n4 rc' H4 l4 w4 x4 o4 => ?_
                exact q n4 (rc' + rest) H4 σ (l1.trans (l2.trans (l3.trans l4))) (kk n4 c' rc' l4 w4 x4) (o4.cast (by ac_rfl))
/-! lists -/
def dSetL : D → D → D → Option D
  | .lst .o ds, .int i, dv => (match ixN ds.length i with
    | some j => if j < ds.length then some (.lst .o (ds.set j dv)) else none
    | none => none)
  | _, _, _ => none
theorem s_setL {g : Gd} : SetS g rSetL dSetL := by
  intro n c v rc di vi ri dv vv rv c' T H Q hg xc xi _ xv o e q
  cases c <;> first | (cases e; done) | skip
  rename_i md ds
  cases md <;> first | (cases e; done) | skip
  cases di <;> first | (cases e; done) | skip
  rename_i i
  obtain ⟨rfl, rfl⟩ := xi
  have e : (match ixN ds.length i with
    | some j => if j < ds.length then some (D.lst .o (ds.set j dv)) else none
    | none => none) = some c' := e
  cases ej : ixN ds.length i with
  | none => rw [ej] at e; cases e
  | some j =>
    rw [ej] at e
    dsimp only at e
    by_cases hj : j < ds.length
    · rw [if_pos hj] at e
      cases e
      obtain ⟨a, vs, r', rfl, rfl, hl⟩ := xc
      obtain ⟨r'', old, x2, e2⟩ := EncL.setN xv hl hj
      refine ⟨a, vs, i, j, rfl, rfl, o.at ⟨rv + r' + T, by ac_rfl⟩, by rw [hl.len]; exact ej, ?_⟩
      refine q n _ _ (En.le.refl n) rfl ⟨a, vs.set j vv, r'', rfl, rfl, x2⟩ ?_
      have o2 := Ok.put (o := .lst (vs.set j vv)) (o.cast (show _ = Rs.one a (.lst vs) + (rv + r' + T) by ac_rfl))
      rw [e2] at o2
      exact (o2.cast (show _ = old + (Rs.one a (.lst (vs.set j vv)) + r'' + T) by ac_rfl)).drop
    · rw [if_neg hj] at e
      cases e
end
end Mi

namespace Mi
open PySem PySem.Spec PyProof.Rows Hk
open L2 hiding Takes XE CX takes_of passes_call MkP PMk ps_raise mk_of ps_try_as passAt pmk_own
open L2N (Takes XE CX takes_of passes_call MkP PMk ps_raise mk_of ps_try_as passAt pmk_own)
/-! ## sorted texts, sorted ints -/
def leT (a b : Str) : Bool := !ltCps b.cps.toList a.cps.toList
theorem leT_iff {a b : Str} : leT a b = true ↔ a.cps.toList ≤ b.cps.toList := by
  unfold leT
  rw [ltCps_eq]
  simp
theorem leT_trans (a b c : Str) (h1 : leT a b = true) (h2 : leT b c = true) : leT a c = true := leT_iff.mpr (List.le_trans (leT_iff.mp h1) (leT_iff.mp h2))
theorem leT_total (a b : Str) : (leT a b || leT b a) = true := by
  rw [Bool.or_eq_true, leT_iff, leT_iff]
  exact List.le_total _ _
theorem leT_anti {a b : Str} (h1 : leT a b = true) (h2 : leT b a = true) : a = b := Str.ext' (Array.toList_inj.mp (List.le_antisymm (leT_iff.mp h1) (leT_iff.mp h2)))
theorem rising_pwT : ∀ (l : List Str) (p : Str), risingS p l = true → (p :: l).Pairwise fun a b => leT a b = true
  | [], p, _ => List.pairwise_singleton ..
  | x :: r, p, h => by
    have h' : (!ltCps x.cps.toList p.cps.toList && risingS x r) = true := h
    rw [Bool.and_eq_true] at h'
    have ih := rising_pwT r x h'.2
    refine List.pairwise_cons.mpr ⟨fun y hy => ?_, ih⟩
    rcases List.mem_cons.mp hy with e | hy
    · rw [e]
      exact h'.1
    · exact leT_trans _ _ _ h'.1 ((List.pairwise_cons.mp ih).1 y hy)
theorem sorted_pwT {l : List Str} (h : sortedS l = true) : l.Pairwise fun a b => leT a b = true := by
  cases l with
  | nil => exact List.Pairwise.nil
  | cons x r => exact rising_pwT r x h
def srtT (l : List Str) : List Str := l.mergeSort leT
theorem srtT_eq {l ys : List Str} (hp : ys.Perm l) (hs : sortedS ys = true) : ys = srtT l :=
  List.Perm.eq_of_pairwise (fun a b _ _ h1 h2 => leT_anti h1 h2) (sorted_pwT hs) (List.pairwise_mergeSort leT_trans leT_total l) (hp.trans (List.mergeSort_perm ..).symm)
def leI (a b : Int) : Bool := decide (a ≤ b)
theorem leI_iff {a b : Int} : leI a b = true ↔ a ≤ b := decide_eq_true_iff
theorem leI_trans (a b c : Int) (h1 : leI a b = true) (h2 : leI b c = true) : leI a c = true := leI_iff.mpr (Int.le_trans (leI_iff.mp h1) (leI_iff.mp h2))
theorem leI_total (a b : Int) : (leI a b || leI b a) = true := by
  rw [Bool.or_eq_true, leI_iff, leI_iff]
  exact Int.le_total a b
def srtI (l : List Int) : List Int := l.mergeSort leI
theorem srtI_eq {l ys : List Int} (hp : ys.Perm l) (hs : ys.Pairwise (· ≤ ·)) : ys = srtI l :=
  List.Perm.eq_of_pairwise (le := fun a b => leI a b = true) (fun a b _ _ h1 h2 => Int.le_antisymm (leI_iff.mp h1) (leI_iff.mp h2)) (hs.imp fun h => leI_iff.mpr h) (List.pairwise_mergeSort leI_trans leI_total l) (hp.trans (List.mergeSort_perm ..).symm)
/-! ## dicts -/
def keyD : D → Option Key
  | .int i => some (.inl i)
  | .str s => some (.inr s)
  | _ => none
theorem keyD_ok {n : En} {d : D} {v : V} {r : Rs} {k : Key} (x : Enc n d v r) (e : keyD d = some k) : v = kV k ∧ r = 0 := by
  cases d <;> first | (cases e; done) | skip
  all_goals
    cases e
    exact ⟨x.1, x.2⟩
def lookD (k : Key) : List Key → List D → Option D
  | j :: ks, d :: ds => if j = k then some d else lookD k ks ds
  | _, _ => none
theorem lookD_ok {n : En} {k : Key} : ∀ {ks : List Key} {ds : List D} {vs : List V} {r : Rs}, EncL n ds vs r → ks.length = ds.length →
    (∀ d, lookD k ks ds = some d → ∃ v ri, valV (ks.zip vs) k = some v ∧ Enc n d v ri ∧ Sub ri r) ∧ (lookD k ks ds = none → valV (ks.zip vs) k = none)
  | [], _ :: _, _, _, _, hl => by cases hl
  | [], [], _, _, _, _ => ⟨(fun d e => by cases e), (fun _ => rfl)⟩
  | j :: ks, [], _, _, _, hl => by cases hl
  | j :: ks, d0 :: ds, _, _, h, hl => by
    obtain ⟨v, vs', r1, r2, rfl, rfl, h1, h2⟩ := h
    rw [List.zip_cons_cons]
    have q : lookD k (j :: ks) (d0 :: ds) = if j = k then some d0 else lookD k ks ds := rfl
    rw [q]
    by_cases c : j = k
    · rw [if_pos c, valV_pos (p := (j, v)) c]
      exact ⟨fun d e => by cases e; exact ⟨v, r1, rfl, h1, r2, rfl⟩, fun e => by cases e⟩
    · rw [if_neg c, valV_neg (p := (j, v)) c]
      obtain ⟨i1, i2⟩ := lookD_ok (k := k) h2 (by simpa using hl)
      exact ⟨fun d e => by
        obtain ⟨w, ri, e1, e2, e3⟩ := i1 d e
        exact ⟨w, ri, e1, e2, e3.addl _⟩, i2⟩
def replA {α : Type} (k : Key) (x : α) : List Key → List α → List α
  | j :: ks, y :: ys => (if j = k then x else y) :: replA k x ks ys
  | _, ys => ys
theorem replA_zip {k : Key} {v : V} : ∀ {ks : List Key} {vs : List V}, (ks.zip vs).map (fun kv => if kv.1 = k then (kv.1, v) else kv) = ks.zip (replA k v ks vs)
  | [], vs => rfl
  | j :: ks, [] => rfl
  | j :: ks, w :: vs => by
    rw [List.zip_cons_cons, List.map_cons, replA_zip]
    show _ = (j :: ks).zip ((if j = k then v else w) :: replA k v ks vs)
    rw [List.zip_cons_cons]
    dsimp only
    by_cases c : j = k
    · rw [if_pos c, if_pos c]
    · rw [if_neg c, if_neg c]
theorem replA_len {α : Type} {k : Key} {x : α} : ∀ {ks : List Key} {ys : List α}, (replA k x ks ys).length = ys.length
  | [], ys => rfl
  | j :: ks, [] => rfl
  | j :: ks, y :: ys => by
    show (_ :: replA k x ks ys).length = _
    rw [List.length_cons, replA_len, List.length_cons]
theorem replA_enc {n : En} {k : Key} {d : D} {v : V} (x : Enc n d v 0) : ∀ {ks : List Key} {ds : List D} {vs : List V} {r : Rs}, EncL n ds vs r → ∃ r' old, EncL n (replA k d ks ds) (replA k v ks vs) r' ∧ r = old + r'
  | [], ds, vs, r, h => ⟨r, 0, h, (Rs.zero_add r).symm⟩
  | j :: ks, [], vs, r, h => by
    obtain ⟨rfl, rfl⟩ := h
    exact ⟨0, 0, ⟨rfl, rfl⟩, rfl⟩
  | j :: ks, d0 :: ds, _, _, h => by
    obtain ⟨w, vs', r1, r2, rfl, rfl, h1, h2⟩ := h
    obtain ⟨r', old, i1, rfl⟩ := replA_enc x (ks := ks) h2
    by_cases c : j = k
    · refine ⟨0 + r', r1 + old, ⟨v, _, 0, r', ?_, rfl, ?_, i1⟩, by rw [Rs.zero_add]; ac_rfl⟩
      · show (if j = k then v else w) :: _ = _
        rw [if_pos c]
      · rw [if_pos c]; exact x
    · refine ⟨r1 + r', old, ⟨w, _, r1, r', ?_, rfl, ?_, i1⟩, by ac_rfl⟩
      · show (if j = k then v else w) :: _ = _
        rw [if_neg c]
      · rw [if_neg c]; exact h1
def hasK (k : Key) (ks : List Key) : Bool := ks.any fun j => decide (j = k)
theorem hasK_zip {k : Key} : ∀ {ks : List Key} {vs : List V}, ks.length = vs.length → ((ks.zip vs).any fun kv => decide (kv.1 = k)) = hasK k ks
  | [], vs, _ => rfl
  | j :: ks, [], hl => by cases hl
  | j :: ks, w :: vs, hl => by
    rw [List.zip_cons_cons, List.any_cons, hasK_zip (by simpa using hl)]
    rfl
theorem zip_app {α β : Type} {a : α} {b : β} : ∀ {ks : List α} {vs : List β}, ks.length = vs.length → ks.zip vs ++ [(a, b)] = (ks ++ [a]).zip (vs ++ [b])
  | [], [], _ => rfl
  | [], _ :: _, hl => by cases hl
  | _ :: _, [], hl => by cases hl
  | k :: ks, v :: vs, hl => by
    rw [List.zip_cons_cons, List.cons_append, zip_app (by simpa using hl)]
    rfl
/-- d[k] = v, v to be copied -/
def dSetD : D → D → D → Option D
  | .dic true ks ds, dk, dv => (match keyD dk with
    | some k => if (cp dv && decide (ks.length < 16777216)) = true then (if hasK k ks = true then some (.dic true ks (replA k dv ks ds)) else some (.dic true (ks ++ [k]) (ds ++ [dv]))) else none
    | none => none)
  | _, _, _ => none
theorem s_setD {g : Gd} : SetS g rSetD dSetD := by
  intro n c v rc di vi ri dv vv rv c' T H Q hg xc xi _ xv o e q
  cases c <;> first | (cases e; done) | skip
  rename_i ow ks ds
  cases ow <;> first | (cases e; done) | skip
  have e : (match keyD di with
    | some k => if (cp dv && decide (ks.length < 16777216)) = true then (if hasK k ks = true then some (D.dic true ks (replA k dv ks ds)) else some (.dic true (ks ++ [k]) (ds ++ [dv]))) else none
    | none => none) = some c' := e
  cases ek : keyD di with
  | none => rw [ek] at e; cases e
  | some k =>
    rw [ek] at e
    dsimp only at e
    obtain ⟨rfl, rfl⟩ := keyD_ok xi ek
    cases hc : (cp dv && decide (ks.length < 16777216)) with
    | false => rw [hc] at e; cases e
    | true =>
      rw [hc, if_pos rfl] at e
      rw [Bool.and_eq_true] at hc
      have z := xv.cp hc.1
      subst z
      obtain ⟨a, vs, r', rfl, rfl, hl, hk⟩ := xc
      have hkv : ks.length = vs.length := hk.trans hl.len.symm
      have eh : H a = some (.dK (ks.zip vs)) := o.at ⟨r' + T, by rw [Rs.zero_add]; ac_rfl⟩
      have hz : (ks.zip vs).length < sizeLine := by
        rw [List.length_zip, ← hkv, Nat.min_self, sizeLine_eq]
        exact of_decide_eq_true hc.2
      refine show ∃ (a0 : Addr) (H' : Hp), V.ref a = .ref a0 ∧ DPut H a0 (kV k) vv H' ∧ Q H' from ⟨a, _, rfl, DPut.k eh hz, ?_⟩
      have o2 := Ok.put (o := .dK (putK (ks.zip vs) k vv)) (o.cast (show _ = Rs.one a (.dK (ks.zip vs)) + (r' + T) by rw [Rs.zero_add]; ac_rfl))
      have ep : putK (ks.zip vs) k vv = if hasK k ks = true then ks.zip (replA k vv ks vs) else (ks ++ [k]).zip (vs ++ [vv]) := by
        unfold putK
        rw [hasK_zip hkv, replA_zip, zip_app hkv]
      rw [ep] at o2 ⊢
      by_cases hh : hasK k ks = true
      · rw [if_pos hh] at e o2 ⊢
        cases e
        obtain ⟨r'', old, x2, rfl⟩ := replA_enc xv (ks := ks) hl
        refine q n _ _ (En.le.refl n) rfl ⟨a, _, r'', rfl, rfl, x2, by rw [replA_len]; exact hk⟩ ?_
        exact (o2.cast (show _ = old + (Rs.one a (.dK (ks.zip (replA k vv ks vs))) + r'' + T) by ac_rfl)).drop
      · rw [if_neg hh] at e o2 ⊢
        cases e
        refine q n _ _ (En.le.refl n) rfl ⟨a, _, r' + 0, rfl, rfl, hl.app (EncL.one xv), by rw [List.length_append, List.length_append, hk]; rfl⟩ ?_
        rw [Rs.add_zero]
        exact o2.cast (by ac_rfl)
/-! d[k] -/
def dDGet : D → D → Option D
  | .dic _ ks ds, dk => (keyD dk).bind fun k => (lookD k ks ds).bind fun d => if cp d = true then some d else none
  | _, _ => none
theorem s_dget {g : Gd} : OpS g (fun x y H Q => ∃ a v, x = V.ref a ∧ DGet H a y (some v) ∧ Q v H) dDGet := by
  intro n d1 v1 r1 d2 v2 r2 d T H Q hg x1 x2 u1 u2 o e q
  cases d1 <;> first | (cases e; done) | skip
  rename_i ow ks ds
  obtain ⟨a, vs, r', rfl, eh, hl, _, hk⟩ := dic_at x1 o u1
  have e : ((keyD d2).bind fun k => (lookD k ks ds).bind fun d => if cp d = true then some d else none) = some d := e
  cases ek : keyD d2 with
  | none => rw [ek] at e; cases e
  | some k =>
    rw [ek] at e
    have e : ((lookD k ks ds).bind fun d => if cp d = true then some d else none) = some d := e
    obtain ⟨rfl, rfl⟩ := keyD_ok x2 ek
    cases el : lookD k ks ds with
    | none => rw [el] at e; cases e
    | some d' =>
      rw [el] at e
      have e : (if cp d' = true then some d' else none) = some d := e
      cases hc : cp d' with
      | false => rw [hc] at e; cases e
      | true =>
        rw [hc, if_pos rfl] at e
        cases e
        obtain ⟨v, ri, ev, xv, _⟩ := (lookD_ok hl hk).1 _ el
        have z := xv.cp hc
        subst z
        refine ⟨a, v, rfl, ?_, q.atom xv o⟩
        rw [← ev]
        exact DGet.k eh
/-! k in d -/
def dDIn (neg : Bool) : D → D → Option D
  | dk, .dic _ ks ds => (keyD dk).map fun k => .bl (xor neg (lookD k ks ds).isSome)
  | _, _ => none
theorem din_core {n : En} {d1 d2 : D} {v1 v2 : V} {r1 r2 T : Rs} {H : Hp} {neg : Bool} {d : D} (x1 : Enc n d1 v1 r1) (x2 : Enc n d2 v2 r2) (u2 : Sub r2 T) (o : Ok n.B T H) (e : dDIn neg d1 d2 = some d) :
    ∃ a ov, v2 = .ref a ∧ DGet H a v1 ov ∧ d = .bl (xor neg ov.isSome) := by
  cases d2 <;> first | (cases e; done) | skip
  rename_i ow ks ds
  obtain ⟨a, vs, r', rfl, eh, hl, _, hk⟩ := dic_at x2 o u2
  have e : ((keyD d1).map fun k => D.bl (xor neg (lookD k ks ds).isSome)) = some d := e
  cases ek : keyD d1 with
  | none => rw [ek] at e; cases e
  | some k =>
    rw [ek] at e
    cases e
    obtain ⟨rfl, rfl⟩ := keyD_ok x1 ek
    refine ⟨a, _, rfl, DGet.k eh, ?_⟩
    cases el : lookD k ks ds with
    | none =>
      show D.bl (neg ^^ (lookD k ks ds).isSome) = _
      rw [(lookD_ok hl hk).2 el, el]
      rfl
    | some d' =>
      obtain ⟨v, ri, ev, _⟩ := (lookD_ok hl hk).1 _ el
      show D.bl (neg ^^ (lookD k ks ds).isSome) = _
      rw [ev, el]
      rfl
theorem s_din {g : Gd} : OpS g (fun y x H Q => ∃ a ov, x = V.ref a ∧ DGet H a y ov ∧ Q (.bl ov.isSome) H) (dDIn false) := by
  intro n d1 v1 r1 d2 v2 r2 d T H Q hg x1 x2 u1 u2 o e q
  obtain ⟨a, ov, rfl, gg, rfl⟩ := din_core x1 x2 u2 o e
  exact ⟨a, ov, rfl, gg, q.atom ⟨by rw [Bool.false_xor], rfl⟩ o⟩
theorem s_dnotin {g : Gd} : OpS g (fun y x H Q => ∃ a ov, x = V.ref a ∧ DGet H a y ov ∧ Q (.bl (!ov.isSome)) H) (dDIn true) := by
  intro n d1 v1 r1 d2 v2 r2 d T H Q hg x1 x2 u1 u2 o e q
  obtain ⟨a, ov, rfl, gg, rfl⟩ := din_core x1 x2 u2 o e
  exact ⟨a, ov, rfl, gg, q.atom ⟨by rw [Bool.true_xor], rfl⟩ o⟩
section
variable {X : Cx} {g : Gj} {W : WX} {p pa pb po : Bool} {a b e f o tg : Expr} {es : List Expr} {ma mb mo m mi mk mz : M D} {ml : M Lo} {ms : M (List D)} {pos q apos cpos : Pos}
theorem op_din (hu : X.A.units + 1 < cLine) : OpR X (compareOp .In) (fun y x H Q => ∃ a ov, x = V.ref a ∧ DGet H a y ov ∧ Q (.bl ov.isSome) H) := by
  intro pins s σ H y x u v Q I ry rx ⟨a, ov, ex, gg, q⟩
  subst ex
  obtain rfl : v = Value.ref a := rx
  exact d_in hu I gg ry fun s3 I3 => ⟨.bl ov.isSome, H, I3, rfl, q⟩
theorem op_dnotin (hu : X.A.units + 1 < cLine) : OpR X (compareOp .NotIn) (fun y x H Q => ∃ a ov, x = V.ref a ∧ DGet H a y ov ∧ Q (.bl (!ov.isSome)) H) := by
  intro pins s σ H y x u v Q I ry rx ⟨a, ov, ex, gg, q⟩
  subst ex
  obtain rfl : v = Value.ref a := rx
  exact d_notIn hu I gg ry fun s3 I3 => ⟨.bl (!ov.isSome), H, I3, rfl, q⟩
theorem sf_dget (hu : X.A.units + 1 < cLine) (ha : SE X g W .E pa a ma) (hb : SE X g W .E pb b mb) (hs : NoSl b := by intro _ _; rfl) : SE X g W .F (pa && pb) (.Subscript a b pos) (mBin dDGet pb ma mb) :=
  PE.imp (pe_dget hu ha hb hs) fun σ H Q h => op_core s_dget σ H Q h
theorem sf_dnew : SE X g W .F true (.Dict [] [] pos) (mC (.dic true [] [])) :=
  PE.imp pe_dnewK fun σ H Q ⟨n, ct, s, R, Mr, pr, q⟩ p hp =>
    q n R _ (En.le.refl n) (fun _ => ⟨rfl, rfl, rfl⟩) pr.2.1 _ ⟨_, ⟨p, [], 0, rfl, rfl, ⟨rfl, rfl⟩, rfl⟩, by
      have := pr.2.2.add (p := p) (o := .dK []) hp
      exact this.cast (show _ = Rs.one p (.dK (List.zip [] [])) + 0 + (R + Mr) by rw [Rs.add_zero]; rfl)⟩
/-! d.get(k) -/
def isDic : D → Bool
  | .dic _ _ _ => true
  | _ => false
def dDGet1 : D → D → Option D
  | .dic _ ks ds, dk => (keyD dk).bind fun k => (match lookD k ks ds with
    | some d => if cp d = true then some d else none
    | none => some .non)
  | _, _ => none
def mDGet1 (pb : Bool) (ma mb : M D) : M D := fun s => (ma s).bind fun d1 s1 => if isDic d1 = true then (mb s1).bind fun d2 s2 => if (pb || cp d1) = true then mOpt (dDGet1 d1 d2) s2 else .bad else .bad
theorem sf_dget1 (hu : X.A.units + 1 < cLine) (ha : SE X g W .E pa a ma) (hb : SE X g W .E pb b mb)
    (hbase : attributeBase a "get" X.env (eval a X.env) = eval a X.env := by rfl)
    (hfew : ((backTo cpos (starEach [b] X.env)).all (fun x => !x.1) && (backToKw cpos (keywordEach [] X.env)).all (fun x => x.1.isSome)
      && decide (([b] : List Expr).length + ([] : List Keyword).length + (if ([] : List Keyword).isEmpty then 0 else 1) < 30)) = true := by rfl)
    (hline : (apos.endLine == cpos.line) = true := by rfl) (htr : backTo cpos (starEach [b] X.env) = [(false, eval b X.env)] := by rfl) :
    SE X g W .F (pa && pb) (.Call (.Attribute a "get" apos) [b] [] cpos) (mDGet1 pb ma mb) :=
  PE.imp (pe_dget1 hu ha hb ⟨hbase, hfew, hline, htr⟩) fun σ H Q ⟨n, ct, s, R, Mr, pr, q⟩ => by
    unfold mDGet1 at q
    refine ⟨n, ct, s, R, Mr, pr, ?_⟩
    cases hm : ma s with
    | bad => rw [hm] at q; exact q
    | er e s' => rw [hm] at q; exact q
    | ok d1 s1 =>
      rw [hm, Rz.bind_ok] at q
      intro n1 R1 H1 l1 e1 rl1 v1 o1
      obtain ⟨t1, r1, x1, u1, o1⟩ := o1
      cases d1 <;> first | (exact False.elim q; done) | skip
      rename_i ow ks ds
      have q : Post g W (pa && pb) ct n s σ R Mr (finE .F Mr Q) ((mb s1).bind fun d2 s2 => if (pb || cp (.dic ow ks ds)) = true then mOpt (dDGet1 (.dic ow ks ds) d2) s2 else .bad) := q
      obtain ⟨a0, vs, r', rfl, eh, hl, _, hk⟩ := dic_at x1 o1 (u1.trans ⟨Mr, by ac_rfl⟩)
      refine ⟨a0, rfl, .inl ⟨_, .inl eh⟩, n1, ct, s1, R1, t1 + Mr, ⟨pg l1 pr.1, rl1, o1.cast (by ac_rfl)⟩, ?_⟩
      cases hm2 : mb s1 with
      | bad => rw [hm2] at q; exact q
      | er e s' => rw [hm2] at q; exact fun n2 R2 H2 l2 r2 o2 => q n2 R2 H2 (l1.trans l2) r2 ((o2.cast (show _ = t1 + (R2 + Mr) by ac_rfl)).drop)
      | ok d2 s2 =>
        rw [hm2, Rz.bind_ok] at q
        intro n2 R2 H2 l2 e2 rl2 v2 o2
        obtain ⟨t2, r2, x2, u2, o2⟩ := o2
        cases hc : (pb || cp (.dic ow ks ds)) with
        | false => rw [hc] at q; exact False.elim q
        | true =>
          rw [hc, if_pos rfl] at q
          have us : Sub r1 (t1 + t2 + (R2 + Mr)) := by
            rw [Bool.or_eq_true] at hc
            rcases hc with z | z
            · rw [(e2 z).2.1]
              obtain ⟨u, e⟩ := u1
              exact ⟨u + (t2 + Mr), by rw [show t1 + t2 + (R1 + Mr) = (t1 + R1) + (t2 + Mr) by ac_rfl, e]; ac_rfl⟩
            · rw [x1.cp z]
              exact Sub.zero _
          have o3 : Ok n2.B (t1 + t2 + (R2 + Mr)) H2 := o2.cast (by ac_rfl)
          obtain ⟨a1, ws, r'', ea, eh2, hl2, _, hk2⟩ := dic_at (x1.mono l2) o3 us
          cases ea
          cases ed : dDGet1 (.dic ow ks ds) d2 with
          | none => rw [ed] at q; exact False.elim q
          | some d =>
            rw [ed] at q
            have nw : ∀ w, Enc n2 d w 0 → Q w H2 := fun w xw => q n2 R2 H2 (l1.trans l2) (fun z => by
              rw [Bool.and_eq_true] at z
              obtain ⟨a1, a2, a3⟩ := e1 z.1
              obtain ⟨b1, b2, b3⟩ := e2 z.2
              exact ⟨b1.trans a1, b2.trans a2, b3.trans a3⟩) rl2 w ⟨0, xw, by rw [Rs.zero_add]; exact o3.drop⟩
            have ed : ((keyD d2).bind fun k => (match lookD k ks ds with
              | some d => if cp d = true then some d else none
              | none => some D.non)) = some d := ed
            cases ek : keyD d2 with
            | none => rw [ek] at ed; cases ed
            | some k =>
              rw [ek] at ed
              have ed : (match lookD k ks ds with
                | some d => if cp d = true then some d else none
                | none => some D.non) = some d := ed
              obtain ⟨rfl, rfl⟩ := keyD_ok x2 ek
              refine ⟨_, DGet.k eh2, ?_⟩
              cases el : lookD k ks ds with
              | none =>
                rw [el] at ed
                cases ed
                rw [(lookD_ok hl2 hk2).2 el]
                exact nw _ ⟨rfl, rfl⟩
              | some d' =>
                rw [el] at ed
                dsimp only at ed
                cases hcd : cp d' with
                | false => rw [hcd] at ed; cases ed
                | true =>
                  rw [hcd, if_pos rfl] at ed
                  cases ed
                  obtain ⟨w, ri, ev, xw, _⟩ := (lookD_ok hl2 hk2).1 _ el
                  have z := xw.cp hcd
                  subst z
                  rw [ev]
                  exact nw _ xw
/-! d.pop(k, x) of a place -/
def dropDs (k : Key) : List Key → List D → List D
  | j :: ks, d :: ds => if j = k then dropDs k ks ds else d :: dropDs k ks ds
  | _, _ => []
def dropKs (k : Key) (ks : List Key) : List Key := ks.filter fun j => decide (j ≠ k)
theorem drop_ok {n : En} {k : Key} : ∀ {ks : List Key} {ds : List D} {vs : List V} {r : Rs}, EncL n ds vs r → ks.length = ds.length →
    ∃ vs' r' old, dropK (ks.zip vs) k = (dropKs k ks).zip vs' ∧ EncL n (dropDs k ks ds) vs' r' ∧ r = old + r' ∧ (dropKs k ks).length = (dropDs k ks ds).length
  | [], [], vs, r, h, _ => ⟨[], 0, r, rfl, ⟨rfl, rfl⟩, (Rs.add_zero r).symm, rfl⟩
  | [], _ :: _, _, _, _, hl => by cases hl
  | _ :: _, [], _, _, _, hl => by cases hl
  | j :: ks, d :: ds, _, _, h, hl => by
    obtain ⟨w, vs', r1, r2, rfl, rfl, h1, h2⟩ := h
    obtain ⟨ws, r', old, e1, e2, rfl, e4⟩ := drop_ok (k := k) h2 (by simpa using hl)
    have q1 : dropDs k (j :: ks) (d :: ds) = if j = k then dropDs k ks ds else d :: dropDs k ks ds := rfl
    have q2 : dropKs k (j :: ks) = if j = k then dropKs k ks else j :: dropKs k ks := by
      unfold dropKs
      rw [List.filter_cons]
      by_cases c : j = k
      · rw [if_neg (by simpa using c), if_pos c]
      · rw [if_pos (by simpa using c), if_neg c]
    have q3 : dropK ((j :: ks).zip (w :: vs')) k = if j = k then dropK (ks.zip vs') k else (j, w) :: dropK (ks.zip vs') k := by
      rw [List.zip_cons_cons]
      unfold dropK
      rw [List.filter_cons]
      by_cases c : j = k
      · rw [if_neg (by simpa using c), if_pos c]
      · rw [if_pos (by simpa using c), if_neg c]
    rw [q1, q2, q3]
    by_cases c : j = k
    · rw [if_pos c, if_pos c, if_pos c]
      exact ⟨ws, r', r1 + old, e1, e2, by ac_rfl, e4⟩
    · rw [if_neg c, if_neg c, if_neg c]
      exact ⟨w :: ws, r1 + r', old, by rw [List.zip_cons_cons, e1], ⟨w, ws, r1, r', rfl, rfl, h1, e2⟩, by ac_rfl, by rw [List.length_cons, List.length_cons, e4]⟩
def mPop2 (ml : M Lo) (mk mz : M D) : M D := fun s => (ml s).bind fun l s1 => match getL s1 l with
  | some (.dic true _ _) => (mk s1).bind fun dk s2 => if cp dk = true then (mz s2).bind fun dz s3 => (match getL s3 l, keyD dk with
    | some (.dic true ks ds), some k => (match lookD k ks ds with
      | some d => if cp d = true then .ok d (setL s3 l (.dic true (dropKs k ks) (dropDs k ks ds))) else .bad
      | none => .ok dz s3)
    | _, _ => .bad) else .bad
  | _ => .bad
theorem sf_pop2 (ho : SP X g W o ml) (hk : SE X g W .E true e mk) (hz : SE X g W .C true f mz)
    (hbase : attributeBase o "pop" X.env (eval o X.env) = eval o X.env := by rfl)
    (hfew : ((backTo cpos (starEach [e, f] X.env)).all (fun x => !x.1) && (backToKw cpos (keywordEach [] X.env)).all (fun x => x.1.isSome)
      && decide (([e, f] : List Expr).length + ([] : List Keyword).length + (if ([] : List Keyword).isEmpty then 0 else 1) < 30)) = true := by rfl)
    (hline : (apos.endLine == cpos.line) = true := by rfl) (htr : backTo cpos (starEach [e, f] X.env) = [(false, eval e X.env), (false, eval f X.env)] := by rfl) :
    SE X g W .F false (.Call (.Attribute o "pop" apos) [e, f] [] cpos) (mPop2 ml mk mz) :=
  PE.imp (pe_dpop2 ho hk hz ⟨hbase, hfew, hline, htr⟩) fun σ H Q ⟨n, ct, s, R, Mr, pr, q⟩ => by
    unfold mPop2 at q
    refine ⟨n, ct, s, R, Mr, pr, ?_⟩
    cases hm : ml s with
    | bad => rw [hm] at q; exact q
    | er e s' => rw [hm] at q; exact q
    | ok l s1 =>
      rw [hm, Rz.bind_ok] at q
      intro n1 R1 H1 l1 e1 rl1 v hv o1
      cases eg : getL s1 l with
      | none => rw [eg] at q; exact False.elim q
      | some c =>
        rw [eg] at q
        cases c <;> first | (exact False.elim q; done) | skip
        rename_i ow ks0 ds0
        cases ow <;> first | (exact False.elim q; done) | skip
        dsimp only at q
        obtain ⟨w, ri, rest, er, xc, hw, kk⟩ := rl1.focus eg
        have ev : w = v := by
          have h1 := hw n1.B Mr H1 o1
          rw [hv n1.B Mr H1 o1] at h1
          exact (Option.some.inj h1).symm
        subst ev
        obtain ⟨a0, vs0, r0, rfl, rfl, hl0, hk0⟩ := xc
        have eh : H1 a0 = some (.dK (ks0.zip vs0)) := o1.at ⟨r0 + rest + Mr, by rw [er]; ac_rfl⟩
        refine ⟨a0, rfl, .inl ⟨_, .inl eh⟩, n1, ct, s1, R1, Mr, ⟨pg l1 pr.1, rl1, o1⟩, ?_⟩
        cases hm2 : mk s1 with
        | bad => rw [hm2] at q; exact q
        | er e s' => rw [hm2] at q; exact fun n2 R2 H2 l2 r2 o2 => q n2 R2 H2 (l1.trans l2) r2 o2
        | ok dk s2 =>
          rw [hm2, Rz.bind_ok] at q
          intro n2 R2 H2 l2 e2 rl2 vk o2
          obtain ⟨t2, r2, xk, _, o2⟩ := o2
          obtain ⟨w2, rfl, rfl⟩ := e2 rfl
          cases hc : cp dk with
          | false => rw [hc] at q; exact False.elim q
          | true =>
            rw [hc, if_pos rfl] at q
            have z := xk.cp hc
            subst z
            refine ⟨n2, ct, s2, R2, Mr, ⟨pg l2 (pg l1 pr.1), rl2, o2.drop⟩, ?_⟩
            cases hm3 : mz s2 with
            | bad => rw [hm3] at q; exact q
            | er e s' => rw [hm3] at q; exact fun n3 R3 H3 l3 r3 o3 => q n3 R3 H3 (l1.trans (l2.trans l3)) r3 o3
            | ok dz s3 =>
              rw [hm3, Rz.bind_ok] at q
              intro n3 R3 H3 l3 e3 rl3 vz o3
              obtain ⟨xz, o3⟩ := o3
              obtain ⟨w3, rfl, rfl⟩ := e3 rfl
              rw [eg] at q
              cases ek : keyD dk with
              | none => rw [ek] at q; exact False.elim q
              | some k =>
                rw [ek] at q
                dsimp only at q
                obtain ⟨rfl, _⟩ := keyD_ok xk ek
                obtain ⟨w', ri', rest', er', xc', hw', kk'⟩ := rl3.focus eg
                have ev : w' = .ref a0 := by
                  have h1 := hw' n3.B Mr H3 o3
                  rw [w3, w2, hv n3.B Mr H3 o3] at h1
                  exact (Option.some.inj h1).symm
                subst ev
                obtain ⟨a1, vs, r', ea, rfl, hl, hk⟩ := xc'
                cases ea
                have eh3 : H3 a0 = some (.dK (ks0.zip vs)) := o3.at ⟨r' + rest' + Mr, by rw [er']; ac_rfl⟩
                refine ⟨ks0.zip vs, k, eh3, rfl, fun v evv => ?_, fun evn => ?_⟩
                · cases el : lookD k ks0 ds0 with
                  | none =>
                    rw [(lookD_ok hl hk).2 el] at evv
                    cases evv
                  | some d =>
                    rw [el] at q
                    dsimp only at q
                    cases hcd : cp d with
                    | false => rw [hcd] at q; exact False.elim q
                    | true =>
                      rw [hcd, if_pos rfl] at q
                      obtain ⟨w4, ri4, ev4, xw, _⟩ := (lookD_ok hl hk).1 _ el
                      rw [evv] at ev4
                      cases ev4
                      have z := xw.cp hcd
                      subst z
                      obtain ⟨vs', r'', old, e4, x4, rfl, hk4⟩ := drop_ok (k := k) hl hk
                      have o4 := Ok.put (o := .dK (dropK (ks0.zip vs) k)) (o3.cast (show _ = Rs.one a0 (.dK (ks0.zip vs)) + (old + r'' + rest' + Mr) by rw [er']; ac_rfl))
                      rw [e4] at o4 ⊢
                      refine q n3 (Rs.one a0 (.dK ((dropKs k ks0).zip vs')) + r'' + rest') _ (l1.trans (l2.trans l3)) (fun z => absurd z Bool.false_ne_true) (kk' n3 (.dic true (dropKs k ks0) (dropDs k ks0 ds0)) _ (En.le.refl n3) rfl ⟨a0, vs', r'', rfl, rfl, x4, hk4⟩) v ⟨0, xw, ?_⟩
                      rw [Rs.zero_add]
                      exact (o4.cast (show _ = old + (Rs.one a0 (.dK ((dropKs k ks0).zip vs')) + r'' + rest' + Mr) by ac_rfl)).drop
                · cases el : lookD k ks0 ds0 with
                  | some d =>
                    obtain ⟨w4, ri4, ev4, _⟩ := (lookD_ok hl hk).1 _ el
                    rw [evn] at ev4
                    cases ev4
                  | none =>
                    rw [el] at q
                    exact q n3 R3 H3 (l1.trans (l2.trans l3)) (fun z => absurd z Bool.false_ne_true) rl3 vz ⟨0, xz, by rw [Rs.zero_add]; exact o3⟩
/-! sorted(..) -/
def strsK : List Key → Option (List Str)
  | [] => some []
  | .inr x :: ks => (strsK ks).map (x :: ·)
  | _ :: _ => none
theorem strsK_ok : ∀ {ks : List Key} {ss : List Str}, strsK ks = some ss → ks = ss.map Sum.inr
  | [], ss, e => by cases e; rfl
  | .inr x :: ks, ss, e => by
    have e : (strsK ks).map (x :: ·) = some ss := e
    cases h : strsK ks with
    | none => rw [h] at e; cases e
    | some r =>
      rw [h] at e
      cases e
      rw [strsK_ok h]
      rfl
  | .inl _ :: _, _, e => by cases e
def intsK : List Key → Option (List Int)
  | [] => some []
  | .inl x :: ks => (intsK ks).map (x :: ·)
  | _ :: _ => none
theorem intsK_ok : ∀ {ks : List Key} {ss : List Int}, intsK ks = some ss → ks = ss.map Sum.inl
  | [], ss, e => by cases e; rfl
  | .inl x :: ks, ss, e => by
    have e : (intsK ks).map (x :: ·) = some ss := e
    cases h : intsK ks with
    | none => rw [h] at e; cases e
    | some r =>
      rw [h] at e
      cases e
      rw [intsK_ok h]
      rfl
  | .inr _ :: _, _, e => by cases e
def dSortD : D → Option D
  | .dic _ ks _ => (strsK ks).bind fun ss => if ss.length < 64 then some (.lst .o ((srtT ss).map .str)) else none
  | _ => none
theorem encL_strs {n : En} : ∀ ss : List Str, EncL n (ss.map .str) (ss.map V.str) 0
  | [] => ⟨rfl, rfl⟩
  | s :: ss => ⟨.str s, _, 0, 0, rfl, (Rs.zero_add 0).symm, ⟨rfl, rfl⟩, encL_strs ss⟩
theorem encL_intsD {n : En} : ∀ ss : List Int, EncL n (ss.map .int) (ss.map V.int) 0
  | [] => ⟨rfl, rfl⟩
  | s :: ss => ⟨.int s, _, 0, 0, rfl, (Rs.zero_add 0).symm, ⟨rfl, rfl⟩, encL_intsD ss⟩
theorem map_fst_zip {α β : Type} : ∀ {ks : List α} {vs : List β}, ks.length = vs.length → (ks.zip vs).map (·.1) = ks
  | [], [], _ => rfl
  | [], _ :: _, h => by cases h
  | _ :: _, [], h => by cases h
  | k :: ks, v :: vs, h => by
    rw [List.zip_cons_cons, List.map_cons, map_fst_zip (by simpa using h)]
theorem s_sortD {g : Gd} : Op1 g (fun v H Q => ∃ (a : Addr) (kvs : List (Key × V)) (ks : List Str), [v] = [V.ref a] ∧ Rd H a (.dK kvs) ∧ kvs.map (·.1) = ks.map Sum.inr ∧ ks.length < 64 ∧
    ∀ ys p, ys.Perm ks → sortedS ys = true → H p = none → Q (.ref p) (upd H p (.lst (ys.map V.str)))) dSortD := by
  intro n d1 v1 r1 d T H Q hg x u o e q
  cases d1 <;> first | (cases e; done) | skip
  rename_i ow ks ds
  obtain ⟨a, vs, r', rfl, eh, hl, _, hk⟩ := dic_at x o u
  have e : ((strsK ks).bind fun ss => if ss.length < 64 then some (D.lst .o ((srtT ss).map .str)) else none) = some d := e
  cases es : strsK ks with
  | none => rw [es] at e; cases e
  | some ss =>
    rw [es] at e
    have e : (if ss.length < 64 then some (D.lst .o ((srtT ss).map .str)) else none) = some d := e
    by_cases h64 : ss.length < 64
    · rw [if_pos h64] at e
      cases e
      refine ⟨a, _, ss, rfl, .inl eh, by rw [map_fst_zip (hk.trans hl.len.symm)]; exact strsK_ok es, h64, fun ys p hp hs hn => ?_⟩
      rw [srtT_eq hp hs]
      exact q.lst (encL_strs _) o p hn
    · rw [if_neg h64] at e; cases e
end
end Mi

namespace Mi
open PySem PySem.Spec PyProof.Rows Hk
open L2 hiding Takes XE CX takes_of passes_call MkP PMk ps_raise mk_of ps_try_as passAt pmk_own
open L2N (Takes XE CX takes_of passes_call MkP PMk ps_raise mk_of ps_try_as passAt pmk_own)
section
variable {X : Cx} {g : Gj} {W : WX} {p pa pb po : Bool} {a b e f o tg : Expr} {es : List Expr} {ma mb mo m mi mk mz : M D} {ml : M Lo} {ms : M (List D)} {pos q apos cpos : Pos}
/-! ## a place's tree is read -/
def mPlE (ml : M Lo) : M D := fun s => (ml s).bind fun l s1 => mOpt (getL s1 l) s1
theorem se_plE (h : SP X g W e ml) : SE X g W .E true e (mPlE ml) :=
  PE.imp h fun σ H Q ⟨n, ct, s, R, Mr, pr, q⟩ => by
    unfold mPlE at q
    refine ⟨n, ct, s, R, Mr, pr, ?_⟩
    cases hm : ml s with
    | bad => rw [hm] at q; exact q
    | er e s' => rw [hm] at q; exact q
    | ok l s1 =>
      rw [hm, Rz.bind_ok] at q
      intro n1 R1 H1 l1 e1 rl1 v hv o1
      cases eg : getL s1 l with
      | none => rw [eg] at q; exact False.elim q
      | some d =>
        rw [eg] at q
        obtain ⟨w, ri, rest, er, x, hw, kk⟩ := rl1.focus eg
        have ev : w = v := by
          have h1 := hw n1.B Mr H1 o1
          rw [hv n1.B Mr H1 o1] at h1
          exact (Option.some.inj h1).symm
        subst ev
        exact q n1 R1 H1 l1 e1 rl1 w ⟨0, ri, x, by rw [Rs.zero_add]; exact ⟨rest, er⟩, by rw [Rs.zero_add]; exact o1⟩
/-! ## an attribute among the targets -/
def mgFld (c f : Str) (mo : M D) (d : D) (s : MS) : Option MS := match mo s with
  | .ok od s1 => putOb c f od d s1
  | _ => none
theorem sg_fld {c f : Str} (W : WX) (hK : X.K = g.K) (hc : Cls g.K (g.ca c)) (hn : NoAttr g.K (g.ca c) f) (ho : SE X g W .E true o mo) (hbx : c ≠ bxN := by decide) : SG X g (.Attribute o f pos) (mgFld c f mo) :=
  ⟨fun pins st σ H v u Q I r ⟨n, ct, s, R, Mr, d, s', pr, x, e, q⟩ => (pg_fldK (K := g.K) (pos := pos) (f := f) ho hK).run pins st σ H v u Q I r (by
    unfold mgFld at e
    unfold gFld sFld tC
    refine ⟨n, ct, s, R, Mr, pr, ?_⟩
    cases hm : mo s with
    | bad => rw [hm] at e; cases e
    | er _ _ => rw [hm] at e; cases e
    | ok od s1 =>
      rw [hm] at e
      intro n1 R1 H1 l1 e1 rl1 vo o1
      obtain ⟨T, ro, xo, uo, o1⟩ := o1
      obtain ⟨w1, rfl, rfl⟩ := e1 rfl
      obtain ⟨a, dx, fs, R', rfl, eh, hl, rl', o'⟩ := put_at (T := Mr) (rv := 0) (vv := v) rl1 (by rw [Rs.zero_add]; exact o1.drop) xo (x.mono l1) e hbx
      have hg : n1.g.ca = g.ca := by rw [(pg l1 pr.1).1]
      rw [hg] at eh o'
      exact ⟨a, _, dx, fs, rfl, eh, hc, hn, hl, q n1 R' _ σ l1 rl' o'⟩)⟩
theorem h_add : ∀ (i j : Int) (H : Hp) (Q : VK), Q (.int ((fun x y => x + y) i j)) H → rAdd (.int i) (.int j) H Q := fun i j H Q q => ⟨i, j, rfl, rfl, q⟩
theorem h_sub : ∀ (i j : Int) (H : Hp) (Q : VK), Q (.int ((fun x y => x - y) i j)) H → rSub (.int i) (.int j) H Q := fun i j H Q q => ⟨i, j, rfl, rfl, q⟩
/-! ## zip -/
def zipD : List D → List D → List D
  | x :: xs, y :: ys => .tup [x, y] :: zipD xs ys
  | _, _ => []
/-! ## place.extend(e): e is only read -/
def mExtP (ml : M Lo) (ma : M D) : M D := fun s => (ml s).bind fun l s1 => match getL s1 l with
  | some (.lst .o ds) => (ma s1).bind fun da s2 => (match fExtend ds [da] with
    | some (d, ds') => .ok d (setL s2 l (.lst .o ds'))
    | none => .bad)
  | _ => .bad
theorem sf_extP (hK : X.K = g.K) (hv : SP X g W o ml) (ha : SE X g W .E true e m)
    (hbase : attributeBase o "extend" X.env (eval o X.env) = eval o X.env := by rfl)
    (hfew : ((backTo cpos (starEach [e] X.env)).all (fun x => !x.1) && (backToKw cpos (keywordEach [] X.env)).all (fun x => x.1.isSome)
      && decide (([e] : List Expr).length + ([] : List Keyword).length + (if ([] : List Keyword).isEmpty then 0 else 1) < 30)) = true := by rfl)
    (hline : (apos.endLine == cpos.line) = true := by rfl) (hs : starEach [e] X.env = (false, eval e X.env) :: starEach [] X.env := by rfl) (hplain : (backTo cpos (starEach [] X.env)).any (·.1) = false := by rfl) :
    SE X g W .F false (.Call (.Attribute o "extend" apos) [e] [] cpos) (mExtP ml m) :=
  PE.imp (pe_bm PySem.F.plainAttrs_list PySem.F.slot_list_extend PySem.F.type_list_extend mt_extend hv (pa_cons ha pa_nil hs) hbase hfew hline hs hplain) fun σ H Q ⟨n, ct, s, R, Mr, pr, q⟩ => by
    unfold mExtP at q
    refine ⟨n, ct, s, R, Mr, pr, ?_⟩
    cases hm : ml s with
    | bad => rw [hm] at q; exact q
    | er e s' => rw [hm] at q; exact q
    | ok l s1 =>
      rw [hm, Rz.bind_ok] at q
      intro n1 R1 H1 l1 e1 rl1 v hv o1
      cases eg : getL s1 l with
      | none => rw [eg] at q; exact False.elim q
      | some c =>
        rw [eg] at q
        cases c <;> first | (exact False.elim q; done) | skip
        rename_i md ds
        cases md <;> first | (exact False.elim q; done) | skip
        dsimp only at q
        obtain ⟨w, ri, rest, er, xc, hw, kk⟩ := rl1.focus eg
        have ev : w = v := by
          have h1 := hw n1.B Mr H1 o1
          rw [hv n1.B Mr H1 o1] at h1
          exact (Option.some.inj h1).symm
        subst ev
        obtain ⟨a0, vs0, r0, rfl, rfl, hl0⟩ := xc
        have eh : H1 a0 = some (.lst vs0) := o1.at ⟨r0 + rest + Mr, by rw [er]; ac_rfl⟩
        refine ⟨.inl ⟨rfl, vs0, .inl (.inl eh)⟩, n1, ct, s1, R1, Mr, ⟨pg l1 pr.1, rl1, o1⟩, ?_⟩
        cases hm2 : m s1 with
        | bad => rw [hm2] at q; exact q
        | er e s' => rw [hm2] at q; exact fun n2 R2 H2 l2 r2 o2 => q n2 R2 H2 (l1.trans l2) r2 o2
        | ok da s2 =>
          rw [hm2, Rz.bind_ok] at q
          intro n2 R2 H2 l2 e2 rl2 va o2
          obtain ⟨t2, r2, xa, ua, o2⟩ := o2
          obtain ⟨w2, rfl, rfl⟩ := e2 rfl
          show rExtend (.ref a0) [va] H2 Q
          obtain ⟨w', ri', rest', er', xc', hw', kk'⟩ := rl2.focus eg
          have ev : w' = .ref a0 := by
            have h1 := hw' n2.B (t2 + Mr) H2 (o2.cast (by ac_rfl))
            rw [w2, hv n2.B (t2 + Mr) H2 (o2.cast (by ac_rfl))] at h1
            exact (Option.some.inj h1).symm
          subst ev
          obtain ⟨a', vs, r', ea, rfl, hl⟩ := xc'
          cases ea
          have eh2 : H2 a0 = some (.lst vs) := o2.at ⟨t2 + (r' + rest' + Mr), by rw [er']; ac_rfl⟩
          have e2' : fExtend ds [da] = (match wr da with
            | some zs => if (cpL zs && decide (ds.length + zs.length ≤ 16777216)) = true then some (D.non, ds ++ zs) else none
            | none => none) := rfl
          rw [e2'] at q
          cases ew : wr da with
          | none => rw [ew] at q; exact False.elim q
          | some zs =>
            rw [ew] at q
            dsimp only at q
            obtain ⟨md, rfl, hmd⟩ := wr_of ew
            cases hc : (cpL zs && decide (ds.length + zs.length ≤ 16777216)) with
            | false => rw [hc] at q; exact False.elim q
            | true =>
              rw [hc, if_pos rfl] at q
              dsimp only at q
              rw [Bool.and_eq_true] at hc
              obtain ⟨b, ws, rz, rfl, _, hl2, _, eb⟩ := xa.seq o2 (ua.trans ⟨Mr, by ac_rfl⟩)
              have z := hl2.cp hc.1
              subst z
              refine ⟨a0, b, vs, ws, rfl, rfl, eh2, eb hmd, by rw [hl.len, hl2.len, sizeLine_eq]; exact of_decide_eq_true hc.2, ?_⟩
              have o3 := Ok.put (o := .lst (vs ++ ws)) (o2.cast (show _ = Rs.one a0 (.lst vs) + (t2 + (r' + rest' + Mr)) by rw [er']; ac_rfl))
              exact q n2 (Rs.one a0 (.lst (vs ++ ws)) + (r' + 0) + rest') _ (l1.trans l2) (fun z => absurd z Bool.false_ne_true) (kk' n2 (.lst .o (ds ++ zs)) _ (En.le.refl n2) rfl ⟨a0, _, _, rfl, rfl, hl.app hl2⟩) .non ⟨0, ⟨rfl, rfl⟩, (o3.cast (show _ = t2 + (0 + (Rs.one a0 (.lst (vs ++ ws)) + (r' + 0) + rest' + Mr)) by rw [Rs.zero_add, Rs.add_zero]; ac_rfl)).drop⟩
/-! ## a display of lists that stay open -/
def finAF (Mr : Rs) (Q : List V → Hp → Prop) : List D → En → Rs → Hp → Prop := fun ds n R H => ∀ vs r, EncL n ds vs r → Ok n.B (r + (R + Mr)) H → Q vs H
def tAF (g : Gj) (W : WX) (p : Bool) (m : M (List D)) : TA := fun σ H Q => ∃ n pn s R Mr, Pre g n pn s σ R Mr H ∧ Post g W p pn n s σ R Mr (finAF Mr Q) (m s)
def SAF (X : Cx) (g : Gj) (W : WX) (p : Bool) (es : List Expr) (m : M (List D)) : Prop := PA X es (tAF g W p m)
theorem saf_nil : SAF X g W true [] mNil := PA.imp pa_nil fun σ H Q ⟨n, pn, s, R, Mr, pr, q⟩ => q n R H (En.le.refl n) (fun _ => ⟨rfl, rfl, rfl⟩) pr.2.1 [] 0 ⟨rfl, rfl⟩ (by rw [Rs.zero_add]; exact pr.2.2)
theorem saf_cons (ha : SE X g W .F pa e m) (hb : SAF X g W pb es ms) (hs : starEach (e :: es) X.env = (false, eval e X.env) :: starEach es X.env := by rfl) : SAF X g W (pa && pb) (e :: es) (mCons m ms) :=
  PA.imp (pa_cons ha hb hs) fun σ H Q ⟨n, pn, s, R, Mr, pr, q⟩ => by
    refine ⟨n, pn, s, R, Mr, pr, ?_⟩
    unfold mCons at q
    cases hm : m s with
    | bad => rw [hm] at q; exact q
    | er e s' => rw [hm] at q; exact q
    | ok d s1 =>
      rw [hm, Rz.bind_ok] at q
      intro n1 R1 H1 l1 e1 rl1 v o1
      obtain ⟨r1, x1, o1⟩ := o1
      refine ⟨n1, pn, s1, R1, r1 + Mr, ⟨pg l1 pr.1, rl1, o1.cast (by ac_rfl)⟩, ?_⟩
      cases hk : ms s1 with
      | bad => rw [hk] at q; exact q
      | er e s' =>
        rw [hk] at q
        exact fun n2 R2 H2 l2 r2 o2 => q n2 R2 H2 (l1.trans l2) r2 ((o2.cast (show _ = r1 + (R2 + Mr) by ac_rfl)).drop)
      | ok ds s2 =>
        rw [hk, Rz.bind_ok] at q
        intro n2 R2 H2 l2 e2 rl2 vs r2 x2 o2
        refine q n2 R2 H2 (l1.trans l2) (fun z => ?_) rl2 (v :: vs) (r1 + r2) ⟨v, vs, r1, r2, rfl, rfl, x1.mono l2, x2⟩ (o2.cast (by ac_rfl))
        rw [Bool.and_eq_true] at z
        obtain ⟨a1, a2, a3⟩ := e1 z.1
        obtain ⟨b1, b2, b3⟩ := e2 z.2
        exact ⟨b1.trans a1, b2.trans a2, b3.trans a3⟩
theorem sf_lstF (h : SAF X g W p es ms) : SE X g W .F p (.List es pos) (mArgs dLst ms) :=
  PE.imp (pe_lst h) fun σ H Q ⟨n, pn, s, R, Mr, pr, q⟩ => by
    unfold mArgs at q
    refine ⟨n, pn, s, R, Mr, pr, ?_⟩
    cases hk : ms s with
    | bad => rw [hk] at q; exact q
    | er e s' => rw [hk] at q; exact q
    | ok ds s1 =>
      rw [hk, Rz.bind_ok] at q
      intro n1 R1 H1 l1 e1 rl1 vs r x o1
      have q : Post g W p pn n s σ R Mr (finE .F Mr Q) (mOpt (if ds.length ≤ 16777216 then some (D.lst .o ds) else none) s1) := q
      by_cases hz : ds.length ≤ 16777216
      · rw [if_pos hz] at q
        refine ⟨by rw [x.len, sizeLine_eq]; exact hz, fun a ha => ?_⟩
        exact q n1 R1 _ l1 e1 rl1 (.ref a) ⟨Rs.one a (.lst vs) + r, ⟨a, vs, r, rfl, rfl, x⟩, (o1.add ha).cast (by ac_rfl)⟩
      · rw [if_neg hz] at q
        exact False.elim q
end
end Mi

namespace Mi
open PySem PySem.Spec PyProof.Rows Hk
open L2 hiding Takes XE CX takes_of passes_call MkP PMk ps_raise mk_of ps_try_as passAt pmk_own
open L2N (Takes XE CX takes_of passes_call MkP PMk ps_raise mk_of ps_try_as passAt pmk_own)
/-! ## boxes; pure calls of what makes objects; insert -/
def isBx : D → Bool
  | .lst .o _ => true
  | .dic true _ _ => true
  | _ => false
theorem bx_ref {n : En} {d : D} {v : V} {r : Rs} (x : Enc n d v r) (h : isBx d = true) : ∃ a, v = .ref a := by
  cases d <;> first | (cases h; done) | skip
  · rename_i m ds
    cases m <;> first | (cases h; done) | skip
    obtain ⟨a, vs, r', rfl, _⟩ := x
    exact ⟨a, rfl⟩
  · rename_i b ks ds
    cases b <;> first | (cases h; done) | skip
    obtain ⟨a, vs, r', rfl, _⟩ := x
    exact ⟨a, rfl⟩
/-- a list or a dict gets an identity -/
def mBox (m : M D) : M D := fun s => (m s).bind fun d s1 => match s1.wd with
  | none => .bad
  | some Wd => if isBx d = true then .ok (.obj Wd.length) ⟨s1.fr, some (Wd ++ [⟨bxN, [], [d]⟩])⟩ else .bad
section
variable {X : Cx} {g : Gj} {W : WX} {p pa pb po : Bool} {a b e o : Expr} {es : List Expr} {ma mb mo m : M D} {ms : M (List D)} {pos q apos : Pos} {k : Nat} {ps : List Str} {F : Fm} {x mn : Str} {t : TA}
theorem sf_box (ha : SE X g W .F p e m) : SE X g W .F false e (mBox m) := PE.imp ha.np fun σ H Q ⟨n, pn, s, R, Mr, pr, q⟩ => by
  refine ⟨n, pn, s, R, Mr, pr, Post.mono q fun d s' n' R' H' l ep rl q v o => ?_⟩
  obtain ⟨r, x, o⟩ := o
  obtain ⟨fr, wd⟩ := s'
  cases wd with
  | none => exact False.elim q
  | some Wd =>
    dsimp only at q
    cases hb : isBx d with
    | false => rw [hb] at q; exact False.elim q
    | true =>
      rw [hb, if_pos rfl] at q
      obtain ⟨a, rfl⟩ := bx_ref x hb
      obtain ⟨rf, rw', er, h1, h2, h3, h4⟩ := rl
      have hpw : pn.pw = none := by
        cases hc : pn.pw with
        | none => rfl
        | some w =>
          rw [hc] at h4
          cases h4.1
      have le : n'.le ⟨n'.g, n'.wa ++ [a], n'.B⟩ := ⟨rfl, List.prefix_append _ _, Same.refl _⟩
      have hwl : n'.wa.length = Wd.length := EncW.len (show EncW n' Wd n'.wa rw' from h2)
      have hw2 : EncW ⟨n'.g, n'.wa ++ [a], n'.B⟩ (Wd ++ [⟨bxN, [], [d]⟩]) (n'.wa ++ [a]) (rw' + r) := EncW.snoc (.inr ⟨rfl, rfl, d, rfl, x.mono le⟩) (EncW.mono le h2)
      refine q ⟨n'.g, n'.wa ++ [a], n'.B⟩ (rf + (rw' + r)) H' (l.trans le) (fun z => absurd z Bool.false_ne_true) ⟨rf, rw' + r, rfl, h1.mono le, hw2, h3, ?_⟩ (.ref a) ⟨0, ⟨rfl, a, rfl, ?_⟩, ?_⟩
      · rw [hpw]; trivial
      · show (n'.wa ++ [a])[Wd.length]? = some a
        rw [← hwl, List.getElem?_append_right (Nat.le_refl _), Nat.sub_self]
        rfl
      · rw [Rs.zero_add]
        exact o.cast (by rw [er]; ac_rfl)
/-! targets out of a list -/
theorem pg_lstK {K : PySem.W.Frag} {es : List Expr} {k : Nat} {t : TGs} {n : Nat} {pos : Pos} (hc : X.calm = true) (h : PGs X es t)
    (hn : (assignEach es X.env).length = n := by rfl) (hst : (assignEach es X.env).findIdx? (·.1) = none := by rfl) (hK : X.K = K := by rfl) : PG X (.Tuple es k pos) (gLst K n t) := by subst hK; exact pg_lst hc h hn hst
def mgObL (mgs : List D → MS → Option MS) (d : D) (s : MS) : Option MS := match d with
  | .obj k => (getOb s k).bind fun ob => match boxP [] ob with
    | some (.lst .o ds) => if cpL ds = true then mgs ds s else none
    | _ => none
  | _ => none
theorem sg_obl {kk : Nat} {mgs : List D → MS → Option MS} {nn : Nat} (hc : X.calm = true) (hK : X.K = g.K) (h : SGs X g es mgs) (hl : ∀ ds s s', mgs ds s = some s' → ds.length = nn)
    (hn : (assignEach es X.env).length = nn := by rfl) (hst : (assignEach es X.env).findIdx? (·.1) = none := by rfl) : SG X g (.Tuple es kk pos) (mgObL mgs) :=
  ⟨fun pins s σ H v u Q I r ⟨n, c, ms, R, Mr, d, s', pr, x, e, q⟩ => (pg_lstK (K := g.K) hc h hn hst hK).run pins s σ H v u Q I r (by
    cases d <;> first | (cases e; done) | skip
    rename_i k
    have e : (getOb ms k).bind (fun ob => match boxP [] ob with
      | some (.lst .o ds) => if cpL ds = true then mgs ds ms else none
      | _ => none) = some s' := e
    cases eo : getOb ms k with
    | none => rw [eo] at e; cases e
    | some ob =>
      rw [eo] at e
      have e : (match boxP [] ob with
        | some (.lst .o ds) => if cpL ds = true then mgs ds ms else none
        | _ => none) = some s' := e
      cases eb : boxP [] ob with
      | none => rw [eb] at e; cases e
      | some d =>
        rw [eb] at e
        cases d <;> first | (cases e; done) | skip
        rename_i md ds
        cases md <;> first | (cases e; done) | skip
        dsimp only at e
        cases hcp : cpL ds with
        | false => rw [hcp] at e; cases e
        | true =>
          rw [hcp, if_pos rfl] at e
          obtain ⟨_, a, rfl, ea⟩ := x
          obtain ⟨a', ra, resta, ea', xo, er, _⟩ := pr.2.1.ob eo
          rw [ea] at ea'
          cases ea'
          unfold boxP at eb
          by_cases hbc : ob.c = bxN
          · rw [if_pos hbc] at eb
            obtain ⟨hnn, d0, hd, xd⟩ := xo.box hbc
            rw [hd] at eb
            have eb : getP [] d0 = some (.lst .o ds) := eb
            have : d0 = .lst .o ds := by cases d0 <;> exact Option.some.inj eb
            subst this
            obtain ⟨a2, vs, r', ea2, rfl, hx⟩ := xd
            cases ea2
            have hz := hx.cp hcp
            subst hz
            refine ⟨a, vs, rfl, .inl (.inl (pr.2.2.at ⟨0 + resta + Mr, by rw [er]; ac_rfl⟩)), by rw [hx.len]; exact hl _ _ _ e, n, c, ms, R, Mr, ds, s', pr, hx, e, q⟩
          · rw [if_neg hbc] at eb; cases eb)⟩
def mgLst (mgs : List D → MS → Option MS) (d : D) (s : MS) : Option MS := match d with
  | .lst m ds => if m ≠ .o then mgs ds s else none
  | _ => none
theorem sg_lst {kk : Nat} {mgs : List D → MS → Option MS} {nn : Nat} (hc : X.calm = true) (hK : X.K = g.K) (h : SGs X g es mgs) (hl : ∀ ds s s', mgs ds s = some s' → ds.length = nn)
    (hn : (assignEach es X.env).length = nn := by rfl) (hst : (assignEach es X.env).findIdx? (·.1) = none := by rfl) : SG X g (.Tuple es kk pos) (mgLst mgs) :=
  ⟨fun pins s σ H v u Q I r ⟨n, c, ms, R, Mr, d, s', pr, x, e, q⟩ => (pg_lstK (K := g.K) hc h hn hst hK).run pins s σ H v u Q I r (by
    cases d <;> first | (cases e; done) | skip
    rename_i m ds
    have e : (if m ≠ .o then mgs ds ms else none) = some s' := e
    by_cases hm : m = .o
    · rw [if_neg (fun z => z hm)] at e; cases e
    · rw [if_pos hm] at e
      cases m with
      | o => exact absurd rfl hm
      | f =>
        obtain ⟨_, a, vs, rfl, eb, hx⟩ := x
        exact ⟨a, vs, rfl, .inl (.inl (pr.2.2.same _ _ eb)), by rw [hx.len]; exact hl _ _ _ e, n, c, ms, R, Mr, ds, s', pr, hx, e, q⟩
      | r =>
        obtain ⟨_, a, vs, rfl, eb, hx⟩ := x
        have hs : SqL n.g.K _ a vs := Same.seq pr.2.2.same eb
        exact ⟨a, vs, rfl, by rw [show g.K = n.g.K by rw [pr.1.1]]; exact hs, by rw [hx.len]; exact hl _ _ _ e, n, c, ms, R, Mr, ds, s', pr, hx, e, q⟩)⟩
/-! a pure call of a def that makes objects of its own -/
def afterZ (F : Fm) (ds : List D) (s1 : MS) : Rz D := if noObjL ds = true then (match F (some []) ds with
  | .ok d [] (some _) => if noObj d = true then .ok d s1 else .bad
  | .er e [] (some _) => .er e s1
  | _ => .bad) else .bad
theorem afterZ_ok {n n1 : En} {c : Ct} {s s1 : MS} {σ : L2.St} {R R1 Mr : Rs} {H1 : Hp} {Q : VK} {ds : List D} {vs : List V} (hg : n1.g = g.toGd) (l1 : n.le n1) (e1 : p = true → n1.wa = n.wa ∧ R1 = R ∧ s1 = s) (rl1 : RelS n1 c s1 σ R1) (x : EncL n1 ds vs 0) (o : Ok n1.B (R1 + Mr) H1)
    (q : Post g W p c n s σ R Mr (finE .F Mr Q) (afterZ F ds s1)) : spF g.toGd [] F vs H1 Q (WE W σ) := by
  unfold afterZ at q
  cases hno : noObjL ds with
  | false => rw [hno] at q; exact False.elim q
  | true =>
    rw [hno, if_pos rfl] at q
    refine ⟨⟨n1.g, [], n1.B⟩, some [], ds, 0, 0, R1 + Mr, hg, x.wa hno, ⟨rfl, rfl⟩, by rw [Rs.zero_add, Rs.zero_add]; exact o, ?_⟩
    have out : ∀ {n2 : En}, (⟨n1.g, [], n1.B⟩ : En).le n2 → n1.le ⟨n2.g, n1.wa, n2.B⟩ := fun {n2} l2 => ⟨l2.1, List.prefix_refl _, l2.2.2⟩
    cases hF : F (some []) ds with
    | bad => rw [hF] at q; exact False.elim q
    | er e os wd =>
      rw [hF] at q
      cases os with
      | cons _ _ => exact False.elim q
      | nil =>
        cases wd with
        | none => exact False.elim q
        | some W' =>
          intro n2 ro rw' H2 l2 z x2 y2 o2
          exact q ⟨n2.g, n1.wa, n2.B⟩ R1 H2 (l1.trans (out l2)) (rl1.mono (out l2) rfl) ((o2.cast (show _ = (ro + rw') + (R1 + Mr) by ac_rfl)).drop)
    | ok d os wd =>
      rw [hF] at q
      cases os with
      | cons _ _ => exact False.elim q
      | nil =>
        cases wd with
        | none => exact False.elim q
        | some W' =>
          dsimp only at q
          cases hd : noObj d with
          | false => rw [hd] at q; exact False.elim q
          | true =>
            rw [hd, if_pos rfl] at q
            intro n2 v r ro rw' H2 l2 z x2 y2 xd o2
            refine q ⟨n2.g, n1.wa, n2.B⟩ R1 H2 (l1.trans (out l2)) (fun zz => ⟨(e1 zz).1, (e1 zz).2⟩) (rl1.mono (out l2) rfl) v ⟨r, xd.wa hd, ?_⟩
            exact (o2.cast (show _ = (ro + rw') + (r + (R1 + Mr)) by ac_rfl)).drop
def mCallZ (F : Fm) (ms : M (List D)) : M D := fun s => (ms s).bind (afterZ F)
theorem callZ_core {σ : L2.St} {H : Hp} {Q : VK} (h : tE g W .F p (mCallZ F ms) σ H Q) : tA g W p ms σ H fun vs H1 => spF g.toGd [] F vs H1 Q (WE W σ) := by
  obtain ⟨n, pn, s, R, Mr, pr, q⟩ := h
  unfold mCallZ at q
  refine ⟨n, pn, s, R, Mr, pr, ?_⟩
  cases hm : ms s with
  | bad => rw [hm] at q; exact q
  | er e s' => rw [hm] at q; exact q
  | ok ds s1 =>
    rw [hm, Rz.bind_ok] at q
    intro n1 R1 H1 l1 e1 rl1 vs x o
    exact afterZ_ok (pg l1 pr.1).1 l1 e1 rl1 x o q
theorem sf_callZ (G : GF X.prog X.w X.K X.mg X.base x k ps (spF g.toGd [] F)) (hr : Room k X.A) (tk : Takes X W) (ha : SA X g W p (e :: es) ms) (hg : Gl X x := by rfl) (hdb : (x == ("__debug__" : Str)) = false := by decide)
    (he : starEach (e :: es) X.env = (false, eval e X.env) :: starEach es X.env := by rfl) (hpl : (backTo pos (starEach es X.env)).any (·.1) = false := by rfl) : SE X g W .F p (.Call (.Name x q) (e :: es) [] pos) (mCallZ F ms) :=
  PE.imp (pe_callG G hr tk ha hg hdb he hpl) fun σ H Q h => callZ_core h
end
/-! insert -/
def insAt (ds : List D) (i : Int) (y : D) : Option (D × List D) := if (cpL ds && (smallI i && decide (0 ≤ i)) && decide (ds.length < 16777216)) = true then some (.non, ds.take i.toNat ++ [y] ++ ds.drop i.toNat) else none
def fInsert : List D → List D → Option (D × List D)
  | ds, [x, y] => (match x with
    | .int i => insAt ds i y
    | _ => none)
  | _, _ => none
theorem small_63 {i : Int} (h : smallI i = true) : i < 2 ^ 63 := by
  unfold smallI at h
  rw [Bool.and_eq_true] at h
  have h2 := of_decide_eq_true h.2
  have e1 : (2 : Int) ^ 62 = 4611686018427387904 := by decide
  have e2 : (2 : Int) ^ 63 = 9223372036854775808 := by decide
  rw [e1] at h2
  rw [e2]
  omega
def rInsert : V → List V → Hp → VK → Prop := fun x vs H Q => ∃ (l : Addr) (xs : List V) (i : Int) (y : V), x = .ref l ∧ vs = [.int i, y] ∧ H l = some (.lst xs) ∧ xs.length < sizeLine ∧ 0 ≤ i ∧ i < 2 ^ 63 ∧ Q .non (upd H l (.lst (xs.take i.toNat ++ [y] ++ xs.drop i.toNat)))
theorem insert_enc {n : En} {ds : List D} {vs : List V} {y : D} {v : V} (k : Nat) (hl : EncL n ds vs 0) (xv : Enc n y v 0) : EncL n (ds.take k ++ [y] ++ ds.drop k) (vs.take k ++ [v] ++ vs.drop k) 0 := by
  have := ((hl.take k).app (EncL.one xv)).app (hl.drop k)
  rw [Rs.zero_add, Rs.zero_add] at this
  exact this
theorem m_insert {g : Gd} : MutS g rInsert fInsert := by
  intro n ds a vs r' args avs T H Q d ds' hg hl ha o e q
  match args, ha, e with
  | [x, y], ha, e =>
    cases x <;> first | (cases e; done) | skip
    rename_i i
    have e : insAt ds i y = some (d, ds') := e
    obtain ⟨c, ec⟩ : ∃ c, c = (cpL ds && (smallI i && decide (0 ≤ i)) && decide (ds.length < 16777216)) := ⟨_, rfl⟩
    unfold insAt at e
    rw [← ec] at e
    cases c with
    | false => cases e
    | true =>
      rw [if_pos rfl] at e
      have e := Option.some.inj e
      obtain ⟨rfl, rfl⟩ := Prod.mk.inj e
      have hc := ec.symm
      rw [Bool.and_eq_true, Bool.and_eq_true, Bool.and_eq_true] at hc
      obtain ⟨⟨c1, c2, c3⟩, c4⟩ := hc
      obtain ⟨w, ws, r1, r2, rfl, er, hw, hy⟩ := ha
      obtain ⟨rfl, _⟩ := hw
      obtain ⟨rfl, rfl⟩ := Rs.zero_of_add er
      obtain ⟨v, rfl, xv⟩ := encL_1 hy
      have hz := hl.cp c1
      subst hz
      have hx := insert_enc i.toNat hl xv
      refine ⟨a, vs, i, v, rfl, rfl, o.at ⟨0 + T, by ac_rfl⟩, ?_, of_decide_eq_true c3, small_63 c2, ?_⟩
      · rw [hl.len, sizeLine_eq]
        exact of_decide_eq_true c4
      · refine q n .non 0 (Rs.one a (.lst (vs.take i.toNat ++ [v] ++ vs.drop i.toNat)) + 0) _ (En.le.refl n) rfl ⟨a, _, _, rfl, rfl, hx⟩ ⟨rfl, rfl⟩ ?_
        rw [Rs.zero_add, Rs.add_zero]
        exact Ok.put (o.cast (show _ = Rs.one a (.lst vs) + T by rw [Rs.add_zero]))
  | [], _, e => cases e
  | [_], _, e => cases e
  | _ :: _ :: _ :: _, _, e => cases e
/-! a sign, some times -/
theorem op_mulS {X : Cx} : OpR X (binaryOp .Mult) (fun x y H Q => ∃ z n, x = .str z ∧ y = .int n ∧ MulOk z n ∧ Q (.str (Txt.mul z n)) H) := by
  intro pins s σ H x y v u Q I rx ry h
  obtain ⟨i, j, rfl, rfl, hz, q⟩ := h
  obtain ⟨t, rfl⟩ := rx
  obtain ⟨t', rfl⟩ := ry
  exact SB.mul hz (fun t' tk => ⟨.str (Txt.mul i j), H, I.tok _, ⟨_, rfl⟩, q⟩)
def dMulS : D → D → Option D
  | .str x, .int n => if (decide (x.length = 1) && decide (1 ≤ n) && decide (n ≤ 1000)) = true then some (.str (Txt.mul x n)) else none
  | _, _ => none
theorem s_mulS {g : Gd} : OpS g (fun x y H Q => ∃ z n, x = .str z ∧ y = .int n ∧ MulOk z n ∧ Q (.str (Txt.mul z n)) H) dMulS := by
  intro n d1 v1 r1 d2 v2 r2 d T H Q hg x1 x2 u1 u2 o e q
  cases d1 <;> first | cases e | skip
  cases d2 <;> first | cases e | skip
  rename_i x k
  obtain ⟨rfl, _⟩ := x1
  obtain ⟨rfl, _⟩ := x2
  have e : (if (decide (x.length = 1) && decide (1 ≤ k) && decide (k ≤ 1000)) = true then some (D.str (Txt.mul x k)) else none) = some d := e
  cases hc : (decide (x.length = 1) && decide (1 ≤ k) && decide (k ≤ 1000)) with
  | false => rw [hc] at e; cases e
  | true =>
    rw [hc, if_pos rfl] at e
    cases e
    simp only [Bool.and_eq_true, decide_eq_true_eq] at hc
    obtain ⟨⟨h1, h2⟩, h3⟩ := hc
    have e63 : (2 : Int) ^ 63 = 9223372036854775808 := by decide
    refine ⟨x, k, rfl, rfl, ⟨?_, fun _ _ => ?_, fun _ _ => ?_⟩, q.atom ⟨rfl, rfl⟩ o⟩
    · rw [e63, decide_eq_false (by omega), decide_eq_false (by omega)]
      rfl
    · rw [h1, e63]
      have : (1 : Int) ≤ (9223372036854775808 - 1) / k := (Int.le_ediv_iff_mul_le (by omega)).mpr (by omega)
      intro z
      have z : ((1 : Nat) : Int) > (9223372036854775808 - 1) / k := z
      omega
    · rw [h1]
      show decide (1 * k.toNat > sizeLine) = false
      rw [decide_eq_false]
      rw [sizeLine_eq]
      omega
end Mi

namespace Mi
open PySem PySem.Spec PyProof.Rows Hk
open L2 hiding Takes XE CX takes_of passes_call MkP PMk ps_raise mk_of ps_try_as passAt pmk_own
open L2N (Takes XE CX takes_of passes_call MkP PMk ps_raise mk_of ps_try_as passAt pmk_own)
/-! ## the law's promise -/
def spLaw (K : PySem.W.Frag) : Sp := fun vs H Q _ => ∃ (a : Addr) (ns : List Int), vs = [.ref a] ∧ SqL K H a (ns.map V.int) ∧ ns.length ≤ 63 ∧ ∀ H', Q (.bl true) H'
/-- the law's mirror answers True for every script -/
def LawOk (F : Fm) : Prop := ∀ ns : List Int, ns.length ≤ 63 → ∃ wd, F (some []) [.lst .r (ns.map .int)] = .ok (.bl true) [] wd
theorem encL_script {n : En} : ∀ ns : List Int, EncL n (ns.map .int) (ns.map V.int) 0 := encL_intsD
theorem sp_law {gd : Gd} {F : Fm} (h : LawOk F) {vs : List V} {H : Hp} {Q : VK} {E : XK} (z : spLaw gd.K vs H Q E) : spF gd [] F vs H Q E := by
  obtain ⟨a, ns, rfl, hS, hl, kQ⟩ := z
  obtain ⟨wd, e⟩ := h ns hl
  refine ⟨⟨gd, [], H⟩, some [], [.lst .r (ns.map .int)], 0, 0, 0, rfl, EncL.one ⟨rfl, a, _, rfl, hS, encL_script ns⟩, ⟨rfl, rfl⟩, ?_, ?_⟩
  · rw [Rs.zero_add, Rs.zero_add]
    exact .of (l := []) (Wd.start H)
  · rw [e]
    intro n' v r ro rw' H' l _ x y xd o
    obtain ⟨rfl, _⟩ := xd
    exact kQ H'
theorem tab_ok {P : Str → Bool → Prop} {l : List (Str × Bool)} (h : ∀ q ∈ l, P q.1 q.2) : ∀ y b, l.lookup y = some b → P y b := fun y b e => h (y, b) (lookup_mem e)
end Mi

/-! ## plain mathematics of bytes -/
namespace Hk
/-- n in k bytes, the lowest first -/
def leB : Nat → Nat → List Int
  | 0, _ => []
  | k + 1, n => ((n % 256 : Nat) : Int) :: leB k (n / 256)
def beB (k n : Nat) : List Int := (leB k n).reverse
theorem leB_len : ∀ k n, (leB k n).length = k
  | 0, _ => rfl
  | k + 1, n => by
    show (leB k (n / 256)).length + 1 = k + 1
    rw [leB_len k]
theorem beB_len (k n : Nat) : (beB k n).length = k := by
  unfold beB
  rw [List.length_reverse, leB_len]
theorem leB_byte : ∀ k n, ∀ y ∈ leB k n, 0 ≤ y ∧ y ≤ 255
  | 0, _, y, h => by simp [leB] at h
  | k + 1, n, y, h => by
    rcases List.mem_cons.mp h with rfl | h
    · omega
    · exact leB_byte k _ y h
theorem beB_byte (k n : Nat) : ∀ y ∈ beB k n, 0 ≤ y ∧ y ≤ 255 := fun y h => leB_byte k n y (List.mem_reverse.mp h)
def beV (l : List Int) : Int := l.foldl (fun n b => n * 256 + b) 0
def leV (l : List Int) : Int := beV l.reverse
theorem beV_app (l : List Int) (b : Int) : beV (l ++ [b]) = beV l * 256 + b := by
  unfold beV
  rw [List.foldl_append]
  rfl
theorem leV_cons (b : Int) (l : List Int) : leV (b :: l) = leV l * 256 + b := by
  unfold leV
  rw [List.reverse_cons, beV_app]
theorem leV_leB : ∀ k n, n < 256 ^ k → leV (leB k n) = n
  | 0, n, h => by
    have : n = 0 := by simpa using h
    subst this
    rfl
  | k + 1, n, h => by
    show leV (((n % 256 : Nat) : Int) :: leB k (n / 256)) = n
    rw [leV_cons, leV_leB k (n / 256) (by rw [Nat.pow_succ] at h; exact Nat.div_lt_of_lt_mul (by rw [Nat.mul_comm]; exact h))]
    omega
theorem beV_beB (k n : Nat) (h : n < 256 ^ k) : beV (beB k n) = n := leV_leB k n h
def isBytes (l : List Int) : Prop := ∀ y ∈ l, 0 ≤ y ∧ y ≤ 255
theorem leV_bound : ∀ l : List Int, isBytes l → 0 ≤ leV l ∧ leV l < 256 ^ l.length
  | [], _ => ⟨by decide, by decide⟩
  | b :: l, h => by
    obtain ⟨h1, h2⟩ := leV_bound l fun y hy => h y (List.mem_cons_of_mem _ hy)
    obtain ⟨b1, b2⟩ := h b List.mem_cons_self
    rw [leV_cons, List.length_cons, Int.pow_succ]
    generalize (256 : Int) ^ l.length = q at h2 ⊢
    omega
theorem leB_leV : ∀ l : List Int, isBytes l → leB l.length (leV l).toNat = l
  | [], _ => rfl
  | b :: l, h => by
    have hl : isBytes l := fun y hy => h y (List.mem_cons_of_mem _ hy)
    obtain ⟨h1, h2⟩ := leV_bound l hl
    obtain ⟨b1, b2⟩ := h b List.mem_cons_self
    have e1 : ((leV (b :: l)).toNat % 256 : Nat) = b.toNat := by rw [leV_cons]; omega
    have e2 : (leV (b :: l)).toNat / 256 = (leV l).toNat := by rw [leV_cons]; omega
    show ((((leV (b :: l)).toNat % 256 : Nat) : Int)) :: leB l.length ((leV (b :: l)).toNat / 256) = b :: l
    rw [e1, e2, leB_leV l hl]
    congr 1
    omega
/-- the sum of some bytes -/
def bsStep (s : Int × Int) (b : Int) : Int × Int := ((s.1 + b) % 65521, (s.2 + (s.1 + b) % 65521) % 65521)
def bsPair (l : List Int) : Int × Int := l.foldl bsStep (1, 0)
def bsum (l : List Int) : Int := (bsPair l).2 * 65536 + (bsPair l).1
theorem bsPair_app (l : List Int) (b : Int) : bsPair (l ++ [b]) = bsStep (bsPair l) b := by
  unfold bsPair
  rw [List.foldl_append]
  rfl
theorem bsPair_bd : ∀ (l : List Int) (s : Int × Int), (0 ≤ s.1 ∧ s.1 < 65521 ∧ 0 ≤ s.2 ∧ s.2 < 65521) → (0 ≤ (l.foldl bsStep s).1 ∧ (l.foldl bsStep s).1 < 65521 ∧ 0 ≤ (l.foldl bsStep s).2 ∧ (l.foldl bsStep s).2 < 65521)
  | [], _, h => h
  | b :: l, s, _ => bsPair_bd l (bsStep s b) ⟨Int.emod_nonneg _ (by decide), Int.emod_lt_of_pos _ (by decide), Int.emod_nonneg _ (by decide), Int.emod_lt_of_pos _ (by decide)⟩
theorem bsum_bd (l : List Int) : 0 ≤ bsum l ∧ bsum l < 256 ^ 4 := by
  obtain ⟨a, b, c, d⟩ := bsPair_bd l (1, 0) ⟨by decide, by decide, by decide, by decide⟩
  have e : (256 : Int) ^ 4 = 4294967296 := by decide
  rw [e]
  unfold bsum bsPair
  omega
/-- a record -/
def recH (k : Int) (body : List Int) : List Int := k :: (beB 2 body.length ++ body)
def recB (k : Int) (body : List Int) : List Int := recH k body ++ (beB 4 (bsum (recH k body)).toNat ++ [255])
theorem recH_len (k : Int) (body : List Int) : (recH k body).length = 3 + body.length := by
  unfold recH
  rw [List.length_cons, List.length_append, beB_len]
  omega
theorem recB_len (k : Int) (body : List Int) : (recB k body).length = 8 + body.length := by
  unfold recB
  rw [List.length_append, recH_len, List.length_append, beB_len, List.length_singleton]
  omega
/-- the part from lo to hi -/
def seg (l : List Int) (lo hi : Nat) : List Int := (l.drop lo).take (hi - lo)
theorem seg_len (l : List Int) (lo hi : Nat) (h : hi ≤ l.length) : (seg l lo hi).length = hi - lo := by
  unfold seg
  rw [List.length_take, List.length_drop]
  omega
/-- the end of the record at a place, or none -/
def recEnd (l : List Int) (at_ : Nat) : Option Nat :=
  if l.length < at_ + 8 then none
  else if l.getD at_ 0 < 1 ∨ l.getD at_ 0 > 5 then none
  else
    let m := at_ + 3 + (beV (seg l (at_ + 1) (at_ + 3))).toNat
    if l.length < m + 5 ∨ l.getD (m + 4) 0 ≠ 255 then none
    else if beV (seg l m (m + 4)) ≠ bsum (seg l at_ m) then none
    else some (m + 5)
theorem recEnd_le {l : List Int} {a e : Nat} (h : recEnd l a = some e) : a + 8 ≤ e ∧ e ≤ l.length := by
  unfold recEnd at h
  split at h
  · cases h
  · split at h
    · cases h
    · simp only at h
      split at h
      · cases h
      · rename_i c
        split at h
        · cases h
        · have e2 := Option.some.inj h
          have c' := not_or.mp c
          omega
/-- the records from a place on, with at most n of them -/
def recsF (l : List Int) : Nat → Nat → List (Int × List Int) × Nat
  | 0, a => ([], a)
  | n + 1, a => match recEnd l a with
    | none => ([], a)
    | some e => ((l.getD a 0, seg l (a + 3) (e - 5)) :: (recsF l n e).1, (recsF l n e).2)
def recs (l : List Int) : List (Int × List Int) × Nat := recsF l l.length 0
end Hk

namespace Mi
open PySem PySem.Spec PyProof.Rows Hk
open L2 hiding Takes XE CX takes_of passes_call MkP PMk ps_raise mk_of ps_try_as passAt pmk_own
open L2N (Takes XE CX takes_of passes_call MkP PMk ps_raise mk_of ps_try_as passAt pmk_own)
/-! ## the plain side: what a mirror computes; a continuation is a named thing, so that it is looked into only when it is reached -/
def il (l : List Int) : List D := l.map .int
theorem il_nil : il [] = [] := id rfl
theorem il_cons {i : Int} {l : List Int} : il (i :: l) = .int i :: il l := id rfl
theorem il_app (a b : List Int) : il a ++ il b = il (a ++ b) := (List.map_append ..).symm
theorem il_consR (x : Int) (a : List Int) : D.int x :: il a = il (x :: a) := id rfl
theorem cpL_nil : cpL [] = true := id rfl
theorem cpL_int (x : Int) (a : List D) : cpL (D.int x :: a) = cpL a := by
  show (true && cpL a) = cpL a
  rw [Bool.true_and]
theorem il_snoc (a : List Int) (x : Int) : il a ++ [.int x] = il (a ++ [x]) := il_app a [x]
theorem il_len (a : List Int) : (il a).length = a.length := List.length_map ..
theorem il_cp (a : List Int) : cpL (il a) = true := by
  induction a with
  | nil => rfl
  | cons i a ih => exact ih
theorem il_frz (a : List Int) : frzL (il a) = il a := by
  induction a with
  | nil => rfl
  | cons i a ih => show D.int i :: frzL (il a) = _; rw [ih]; rfl
section
variable {ma mb mc m mo mi mv mk mz : M D} {ml : M Lo} {ms : M (List D)} {mt mt2 : M Bool} {k k1 k2 : M Fl} {s s1 : MS} {d d1 d2 : D} {b : Bool} {f : D → D → Option D} {f1 : D → Option D} {fl : List D → Option D} {pb : Bool} {i j : Nat} {ds es : List D} {mg : D → MS → Option MS} {mgs : List D → MS → Option MS} {c a n : Str} {F : Fm} {e : Exn} {x y : Int}
def kSeq (k2 : M Fl) (f : Fl) (s : MS) : Rz Fl := match f with
  | .nx => k2 s
  | f => .ok f s
theorem e_bok {α β : Type} {z : α} {h : α → MS → Rz β} : (Rz.ok z s).bind h = h z s := id rfl
theorem e_ber {α β : Type} {h : α → MS → Rz β} : (Rz.er e s).bind h = .er e s := id rfl
theorem e_bbad {α β : Type} {h : α → MS → Rz β} : (Rz.bad : Rz α).bind h = .bad := id rfl
theorem e_seq : mSeq k1 k2 s = (k1 s).bind (kSeq k2) := id rfl
theorem e_seq1 : kSeq k2 .nx s = k2 s := id rfl
theorem e_seq2 : kSeq k2 (.rt d) s = .ok (.rt d) s := id rfl
theorem e_seq3 : kSeq k2 .bk s = .ok .bk s := id rfl
theorem e_seq4 : kSeq k2 .ct s = .ok .ct s := id rfl
theorem e_fl {f : Fl} : mFl f s = .ok f s := id rfl
theorem e_er {α : Type} : (mEr c : M α) s = .er ⟨c⟩ s := id rfl
def kDrop (_ : D) (s : MS) : Rz Fl := .ok .nx s
theorem e_drop : mDrop m s = (m s).bind kDrop := id rfl
theorem e_drop1 : kDrop d s = .ok .nx s := id rfl
def kRet (d : D) (s : MS) : Rz Fl := .ok (.rt d) s
theorem e_ret : mRet m s = (m s).bind kRet := id rfl
theorem e_ret1 : kRet d s = .ok (.rt d) s := id rfl
def kIf {α : Type} (k1 k2 : M α) (b : Bool) (s : MS) : Rz α := if b = true then k1 s else k2 s
theorem e_if : mIf mt k1 k2 s = (mt s).bind (kIf k1 k2) := id rfl
theorem e_ifE {α : Type} {m1 m2 : M α} : mIfE mt m1 m2 s = (mt s).bind (kIf m1 m2) := id rfl
theorem e_ifT {α : Type} {m1 m2 : M α} : kIf m1 m2 true s = m1 s := id rfl
theorem e_ifF {α : Type} {m1 m2 : M α} : kIf m1 m2 false s = m2 s := id rfl
def kB (d : D) (s : MS) : Rz Bool := mOpt (dB d) s
theorem e_b : mB m s = (m s).bind kB := id rfl
theorem e_b1 : kB (.bl b) s = .ok b s := id rfl
def kTru (d : D) (s : MS) : Rz Bool := mOpt (tru d) s
theorem e_tru : mTru m s = (m s).bind kTru := id rfl
theorem e_tru1 : kTru d s = mOpt (tru d) s := id rfl
def kNot (b : Bool) (s : MS) : Rz Bool := .ok (!b) s
theorem e_not : mNotB mt s = (mt s).bind kNot := id rfl
theorem e_not1 : kNot b s = .ok (!b) s := id rfl
def kAnd (k : M Bool) (b : Bool) (s : MS) : Rz Bool := if b = true then k s else .ok false s
theorem e_and : mAndB mt mt2 s = (mt s).bind (kAnd mt2) := id rfl
theorem e_andT : kAnd mt true s = mt s := id rfl
theorem e_andF : kAnd mt false s = .ok false s := id rfl
def kOr (k : M Bool) (b : Bool) (s : MS) : Rz Bool := if b = true then .ok true s else k s
theorem e_or : mOrB mt mt2 s = (mt s).bind (kOr mt2) := id rfl
theorem e_orT : kOr mt true s = .ok true s := id rfl
theorem e_orF : kOr mt false s = mt s := id rfl
def kAndV (k : M D) (d : D) (s : MS) : Rz D := match d with
  | .bl c => if c = true then k s else .ok (.bl false) s
  | _ => .bad
theorem e_andv : mAndV m mk s = (m s).bind (kAndV mk) := id rfl
theorem e_andvT : kAndV mk (.bl true) s = mk s := id rfl
theorem e_andvF : kAndV mk (.bl false) s = .ok (.bl false) s := id rfl
def kOrV (k : M D) (d : D) (s : MS) : Rz D := match d with
  | .bl c => if c = true then .ok (.bl true) s else k s
  | _ => .bad
theorem e_orv : mOrV m mk s = (m s).bind (kOrV mk) := id rfl
theorem e_orvT : kOrV mk (.bl true) s = .ok (.bl true) s := id rfl
theorem e_orvF : kOrV mk (.bl false) s = mk s := id rfl
def kBin (f : D → D → Option D) (pb : Bool) (mb : M D) (d1 : D) (s1 : MS) : Rz D := (mb s1).bind fun d2 s2 => if (pb || cp d1) = true then mOpt (f d1 d2) s2 else .bad
def kBin2 (f : D → D → Option D) (pb : Bool) (d1 : D) (d2 : D) (s2 : MS) : Rz D := if (pb || cp d1) = true then mOpt (f d1 d2) s2 else .bad
theorem e_bin : mBin f pb ma mb s = (ma s).bind (kBin f pb mb) := id rfl
theorem e_bin1 : kBin f pb mb d1 s = (mb s).bind (kBin2 f pb d1) := id rfl
theorem e_bin2 : kBin2 f true d1 d2 s = mOpt (f d1 d2) s := id rfl
theorem e_bin3 (h : cp d1 = true) : kBin2 f false d1 d2 s = mOpt (f d1 d2) s := by
  unfold kBin2
  rw [h]
  rfl
def kUn (f : D → Option D) (d : D) (s : MS) : Rz D := mOpt (f d) s
theorem e_un : mUn f1 m s = (m s).bind (kUn f1) := id rfl
theorem e_un1 : kUn f1 d s = mOpt (f1 d) s := id rfl
theorem e_some {α : Type} {z : α} : mOpt (some z) s = .ok z s := id rfl
theorem e_none {α : Type} : mOpt (none : Option α) s = .bad := id rfl
theorem e_c : mC d s = .ok d s := id rfl
def oVar (o : Option (Option D)) (s : MS) : Rz D := match o with
  | some (some d) => .ok d s
  | _ => .bad
theorem e_var {fr : List (Option D)} {wd : Option (List Ob)} : mVar i ⟨fr, wd⟩ = oVar fr[i]? ⟨fr, wd⟩ := id rfl
theorem e_var1 : oVar (some (some d)) s = .ok d s := id rfl
def oVarF (o : Option (Option D)) (i : Nat) (s : MS) : Rz D := match o with
  | some (some d) => .ok (frz d) (setFr s i (frz d))
  | _ => .bad
theorem e_varF {fr : List (Option D)} {wd : Option (List Ob)} : mVarF i ⟨fr, wd⟩ = oVarF fr[i]? i ⟨fr, wd⟩ := id rfl
theorem e_varF1 {fr : List (Option D)} {wd : Option (List Ob)} : oVarF (some (some d)) i ⟨fr, wd⟩ = .ok (frz d) ⟨fr.set i (some (frz d)), wd⟩ := id rfl
def oVarM (o : Option (Option D)) (i : Nat) (s : MS) : Rz D := match o with
  | some (some d) => .ok d { s with fr := s.fr.set i none }
  | _ => .bad
theorem e_varM {fr : List (Option D)} {wd : Option (List Ob)} : mVarM i ⟨fr, wd⟩ = oVarM fr[i]? i ⟨fr, wd⟩ := id rfl
theorem e_varM1 {fr : List (Option D)} {wd : Option (List Ob)} : oVarM (some (some d)) i ⟨fr, wd⟩ = .ok d ⟨fr.set i none, wd⟩ := id rfl
def kCp (d : D) (s : MS) : Rz D := if cp d then .ok d s else .bad
theorem e_cp : mCp m s = (m s).bind kCp := id rfl
theorem e_cp1 (h : cp d = true) : kCp d s = .ok d s := by
  unfold kCp
  rw [h]
  rfl
theorem e_cpI : kCp (.int x) s = .ok (.int x) s := id rfl
theorem e_cpS {z : Str} : kCp (.str z) s = .ok (.str z) s := id rfl
theorem e_cpB : kCp (.bl b) s = .ok (.bl b) s := id rfl
theorem e_cpN : kCp .non s = .ok .non s := id rfl
theorem e_cpT : kCp (.tup ds) s = .ok (.tup ds) s := id rfl
theorem e_cpLf : kCp (.lst .f ds) s = .ok (.lst .f ds) s := id rfl
theorem e_cpLr : kCp (.lst .r ds) s = .ok (.lst .r ds) s := id rfl
theorem e_cpFi {ns : List Str} : kCp (.fin c ns ds) s = .ok (.fin c ns ds) s := id rfl
theorem e_cpO : kCp (.obj i) s = .ok (.obj i) s := id rfl
theorem cp_int : cp (.int x) = true := id rfl
theorem cp_str {z : Str} : cp (.str z) = true := id rfl
theorem cp_bl : cp (.bl b) = true := id rfl
theorem cp_non : cp .non = true := id rfl
theorem cp_tup : cp (.tup ds) = true := id rfl
theorem cp_lf : cp (.lst .f ds) = true := id rfl
theorem cp_lr : cp (.lst .r ds) = true := id rfl
theorem cp_fin {ns : List Str} : cp (.fin c ns ds) = true := id rfl
theorem cp_obj : cp (.obj i) = true := id rfl
def kFrz (d : D) (s : MS) : Rz D := .ok (frz d) s
theorem e_frz : mFrz m s = (m s).bind kFrz := id rfl
theorem e_frz1 : kFrz d s = .ok (frz d) s := id rfl
theorem frz_int : frz (.int x) = .int x := id rfl
theorem frz_str {z : Str} : frz (.str z) = .str z := id rfl
theorem frz_bl : frz (.bl b) = .bl b := id rfl
theorem frz_non : frz .non = .non := id rfl
theorem frz_tup : frz (.tup ds) = .tup ds := id rfl
theorem frz_lo : frz (.lst .o ds) = .lst .f (frzL ds) := id rfl
theorem frz_lf : frz (.lst .f ds) = .lst .f (frzL ds) := id rfl
theorem frz_lr : frz (.lst .r ds) = .lst .r ds := id rfl
theorem frz_fin {ns : List Str} : frz (.fin c ns ds) = .fin c ns ds := id rfl
theorem frz_obj : frz (.obj i) = .obj i := id rfl
theorem frzL_nil : frzL [] = [] := id rfl
theorem frzL_cons : frzL (d :: ds) = frz d :: frzL ds := id rfl
def kSet (i : Nat) (d : D) (s : MS) : Rz Fl := if i < s.fr.length then .ok .nx (setFr s i d) else .bad
theorem e_set : mSet i m s = (m s).bind (kSet i) := id rfl
theorem e_set1 {fr : List (Option D)} {wd : Option (List Ob)} : kSet i d ⟨fr, wd⟩ = if i < fr.length then .ok .nx ⟨fr.set i (some d), wd⟩ else .bad := id rfl
theorem e_nil : mNil s = .ok [] s := id rfl
def kCons (ms : M (List D)) (d : D) (s : MS) : Rz (List D) := (ms s).bind fun ds s2 => .ok (d :: ds) s2
def kCons2 (d : D) (ds : List D) (s : MS) : Rz (List D) := .ok (d :: ds) s
theorem e_cons : mCons m ms s = (m s).bind (kCons ms) := id rfl
theorem e_cons1 : kCons ms d s = (ms s).bind (kCons2 d) := id rfl
theorem e_cons2 : kCons2 d ds s = .ok (d :: ds) s := id rfl
def kArgs (f : List D → Option D) (ds : List D) (s : MS) : Rz D := mOpt (f ds) s
theorem e_args : mArgs fl ms s = (ms s).bind (kArgs fl) := id rfl
theorem e_args1 : kArgs fl ds s = mOpt (fl ds) s := id rfl
theorem e_dLst : dLst ds = if ds.length ≤ 16777216 then some (.lst .o ds) else none := id rfl
theorem e_dTup : dTup ds = if ds.length ≤ 16777216 then some (.tup ds) else none := id rfl
theorem e_callP : mCallP F ms s = (ms s).bind (afterP F) := id rfl
def oP (r : Rf) (s1 : MS) : Rz D := match r with
  | .ok d [] none => .ok d s1
  | .er e [] none => .er e s1
  | _ => .bad
theorem e_callP1 : afterP F ds s = oP (F none ds) s := id rfl
theorem e_callP2 : oP (.ok d [] none) s = .ok d s := id rfl
theorem e_callP3 : oP (.er e [] none) s = .er e s := id rfl
def kRange (f : List D → Option (List D)) (ds : List D) (s : MS) : Rz (List D) := mOpt (f ds) s
theorem e_range {g : List D → Option (List D)} : mRange g ms s = (ms s).bind (kRange g) := id rfl
theorem e_range1 {g : List D → Option (List D)} : kRange g ds s = mOpt (g ds) s := id rfl
theorem e_dR1 : dR1 [.int x] = if smallI x = true then some (rangeD 0 x.toNat) else none := id rfl
theorem e_dR2 : dR2 [.int x, .int y] = if (smallI x && smallI y) = true then some (rangeD x (y - x).toNat) else none := id rfl
def kIt (f : D → Option (List D)) (d : D) (s : MS) : Rz (List D) := mOpt (f d) s
theorem e_it {g : D → Option (List D)} : mIt g m s = (m s).bind (kIt g) := id rfl
theorem e_it1 {g : D → Option (List D)} : kIt g d s = mOpt (g d) s := id rfl
theorem e_dIt {o : Md} : dIt (.lst o ds) = if cpL ds = true then some ds else none := id rfl
theorem e_dItT : dItT (.tup ds) = some ds := id rfl
def kFor (mg : D → MS → Option MS) (k : M Fl) (ds : List D) (s : MS) : Rz Fl := loopL mg k ds s
theorem e_for {mi : M (List D)} : mFor mi mg k s = (mi s).bind (kFor mg k) := id rfl
theorem e_for1 : kFor mg k ds s = loopL mg k ds s := id rfl
def oLp2 (mg : D → MS → Option MS) (k : M Fl) (ds : List D) (r : Rz Fl) : Rz Fl := match r with
  | .ok .nx s2 => loopL mg k ds s2
  | .ok .ct s2 => loopL mg k ds s2
  | .ok .bk s2 => .ok .nx s2
  | r => r
def oLp1 (mg : D → MS → Option MS) (k : M Fl) (ds : List D) (o : Option MS) : Rz Fl := match o with
  | none => .bad
  | some s1 => oLp2 mg k ds (k s1)
theorem e_loopC : loopL mg k (d :: ds) s = oLp1 mg k ds (mg d s) := by
  unfold oLp1 oLp2
  rfl
theorem e_loopS : oLp1 mg k ds (some s) = oLp2 mg k ds (k s) := id rfl
theorem e_loopX : oLp2 mg k ds (.ok .nx s) = loopL mg k ds s := id rfl
theorem e_loopR : oLp2 mg k ds (.ok (.rt d) s) = .ok (.rt d) s := id rfl
theorem e_loopE : oLp2 mg k ds (.er e s) = .er e s := id rfl
theorem e_loopN : loopL mg k [] s = .ok .nx s := id rfl
theorem e_mgName {fr : List (Option D)} {wd : Option (List Ob)} : mgName i d ⟨fr, wd⟩ = if i < fr.length then some ⟨fr.set i (some d), wd⟩ else none := id rfl
theorem e_mgTup : mgTup mgs (.tup ds) s = mgs ds s := id rfl
theorem e_mgCons : mgCons mg mgs (d :: ds) s = (mg d s).bind fun s1 => mgs ds s1 := id rfl
theorem e_mgNil : mgNil [] s = some s := id rfl
def oAsg (o : Option MS) : Rz Fl := match o with
  | some s2 => .ok .nx s2
  | none => .bad
def kAsg (mg : D → MS → Option MS) (d : D) (s : MS) : Rz Fl := oAsg (mg d s)
theorem e_asg : mAsg mg m s = (m s).bind (kAsg mg) := id rfl
theorem e_asg1 : kAsg mg d s = oAsg (mg d s) := id rfl
theorem e_asg2 : oAsg (some s) = .ok .nx s := id rfl
def oOwn (o : Option (Option D)) (r : Rz D) : Rz D := match o with
  | some (some (.lst .o _)) => r
  | _ => .bad
def oMut (i : Nat) (r : Option (D × List D)) (s : MS) : Rz D := match r with
  | some (d, ds') => .ok d (setFr s i (.lst .o ds'))
  | none => .bad
def oMutL (o : Option (Option D)) (i : Nat) (g : List D → List D → Option (D × List D)) (args : List D) (s : MS) : Rz D := match o with
  | some (some (.lst .o ds)) => oMut i (g ds args) s
  | _ => .bad
def kMut (i : Nat) (g : List D → List D → Option (D × List D)) (args : List D) (s1 : MS) : Rz D := oMutL s1.fr[i]? i g args s1
theorem e_mut {g : List D → List D → Option (D × List D)} {fr : List (Option D)} {wd : Option (List Ob)} : mMut i g ms ⟨fr, wd⟩ = oOwn fr[i]? ((ms ⟨fr, wd⟩).bind (kMut i g)) := by
  unfold mMut isOwn
  dsimp only
  cases fr[i]? with
  | none => rfl
  | some o =>
    cases o with
    | none => rfl
    | some d =>
      cases d <;> try rfl
      rename_i o ds
      cases o <;> rfl
theorem e_mut1 {r : Rz D} : oOwn (some (some (.lst .o ds))) r = r := id rfl
theorem e_mut2 {g : List D → List D → Option (D × List D)} {fr : List (Option D)} {wd : Option (List Ob)} : kMut i g es ⟨fr, wd⟩ = oMutL fr[i]? i g es ⟨fr, wd⟩ := id rfl
theorem e_mut3 {g : List D → List D → Option (D × List D)} : oMutL (some (some (.lst .o ds))) i g es s = oMut i (g ds es) s := id rfl
theorem e_mut4 {fr : List (Option D)} {wd : Option (List Ob)} : oMut i (some (d, ds)) ⟨fr, wd⟩ = .ok d ⟨fr.set i (some (.lst .o ds)), wd⟩ := id rfl
theorem e_fApp : fAppend ds [d] = if ds.length < 16777216 then some (.non, ds ++ [d]) else none := id rfl
def kSl (f : D → Option Int → Option Int → Option D) (pp : Bool) (ml mh : M (Option Int)) (d : D) (s1 : MS) : Rz D := (ml s1).bind fun lo s2 => (mh s2).bind fun hi s3 => if (pp || cp d) = true then mOpt (f d lo hi) s3 else .bad
def kSl2 (f : D → Option Int → Option Int → Option D) (pp : Bool) (mh : M (Option Int)) (d : D) (lo : Option Int) (s2 : MS) : Rz D := (mh s2).bind fun hi s3 => if (pp || cp d) = true then mOpt (f d lo hi) s3 else .bad
def kSl3 (f : D → Option Int → Option Int → Option D) (pp : Bool) (d : D) (lo hi : Option Int) (s3 : MS) : Rz D := if (pp || cp d) = true then mOpt (f d lo hi) s3 else .bad
theorem e_sl {g : D → Option Int → Option Int → Option D} {mlo mhi : M (Option Int)} : mSl g pb m mlo mhi s = (m s).bind (kSl g pb mlo mhi) := id rfl
theorem e_sl1 {g : D → Option Int → Option Int → Option D} {mlo mhi : M (Option Int)} : kSl g pb mlo mhi d s = (mlo s).bind (kSl2 g pb mhi d) := id rfl
theorem e_sl2 {g : D → Option Int → Option Int → Option D} {mhi : M (Option Int)} {lo : Option Int} : kSl2 g pb mhi d lo s = (mhi s).bind (kSl3 g pb d lo) := id rfl
theorem e_sl3 {g : D → Option Int → Option Int → Option D} {lo hi : Option Int} : kSl3 g true d lo hi s = mOpt (g d lo hi) s := id rfl
theorem e_noP : mNoP s = .ok none s := id rfl
def kSo (d : D) (s : MS) : Rz (Option Int) := match d with
  | .int i => .ok (some i) s
  | _ => .bad
theorem e_so : mSoP m s = (m s).bind kSo := id rfl
theorem e_so1 : kSo (.int x) s = .ok (some x) s := id rfl
/-! a def -/
def oFn (io : List Nat) (r : Rz Fl) : Rf := match r with
  | .ok (.rt d) s => (match outs s.fr io with
    | some os => .ok d os s.wd
    | none => .bad)
  | .ok .nx s => (match outs s.fr io with
    | some os => .ok .non os s.wd
    | none => .bad)
  | .er e s => (match outs s.fr io with
    | some os => .er e os s.wd
    | none => .bad)
  | _ => .bad
theorem e_fn {nl np : Nat} {io : List Nat} {body : M Fl} {wd : Option (List Ob)} (h : ds.length = np) : fnM nl np io body wd ds = oFn io (body ⟨ds.map some ++ List.replicate (nl - np) none, wd⟩) := by
  unfold fnM
  rw [if_pos h]
  rfl
theorem e_fnR : oFn [] (.ok (.rt d) s) = .ok d [] s.wd := id rfl
theorem e_fnN : oFn [] (.ok .nx s) = .ok .non [] s.wd := id rfl
theorem e_fnE : oFn [] (.er e s) = .er e [] s.wd := id rfl
/-! values -/
theorem w_add : dAdd (.int x) (.int y) = some (.int (x + y)) := id rfl
theorem w_sub : dSub (.int x) (.int y) = some (.int (x - y)) := id rfl
theorem w_mul : dMul (.int x) (.int y) = if cMul x y = true then some (.int (x * y)) else none := id rfl
theorem w_mod : dMod (.int x) (.int y) = if decide (0 < y) = true then some (.int (x % y)) else none := id rfl
theorem w_div : dDiv (.int x) (.int y) = if (decide (0 < y) && decide (y < 1073741824)) = true then some (.int (x / y)) else none := id rfl
theorem w_shr : dShr (.int x) (.int y) = if decide (0 ≤ y) = true then some (.int (x / 2 ^ y.toNat)) else none := id rfl
theorem w_and : dAnd (.int x) (.int y) = some (.int (Builtin.bitAnd x y)) := id rfl
theorem w_lt : dLt (.int x) (.int y) = some (.bl (decide (x < y))) := id rfl
theorem w_le : dLe (.int x) (.int y) = some (.bl (decide (x ≤ y))) := id rfl
theorem w_gt : dGt (.int x) (.int y) = some (.bl (decide (y < x))) := id rfl
theorem w_ge : dGe (.int x) (.int y) = some (.bl (decide (y ≤ x))) := id rfl
theorem w_neg : dNeg (.int x) = some (.int (-x)) := id rfl
theorem w_not : dNot (.bl b) = some (.bl (!b)) := id rfl
theorem w_eq : dEq (.int x) (.int y) = some (.bl (decide (x = y))) := by
  show some (D.bl (x == y)) = _
  congr 2
theorem w_ne : dNe (.int x) (.int y) = some (.bl (!decide (x = y))) := by
  show some (D.bl (!(x == y))) = _
  congr 2
theorem w_len {o : Md} : dLen (.lst o ds) = some (.int ds.length) := id rfl
theorem w_lenT : dLen (.tup ds) = some (.int ds.length) := id rfl
theorem w_int : dInt (.int x) = some (.int x) := id rfl
theorem w_abs : dAbs (.int x) = some (.int (if x < 0 then -x else x)) := id rfl
theorem w_min2 : dMin2 [.int x, .int y] = some (.int (if y < x then y else x)) := id rfl
theorem w_list {o : Md} : dList (.lst o ds) = if cpL ds = true then some (.lst .o ds) else none := id rfl
theorem w_tuple {o : Md} : dTuple (.lst o ds) = if cpL ds = true then some (.tup ds) else none := id rfl
theorem w_rev {o : Md} : dRev (.lst o ds) = if cpL ds = true then some (.lst .o ds.reverse) else none := id rfl
theorem w_cat1 : dCat (.lst .o ds) (.lst .o es) = if (cpL ds && cpL es && decide (ds.length + es.length ≤ 16777216)) = true then some (.lst .o (ds ++ es)) else none := id rfl
theorem w_cat2 : dCat (.lst .f ds) (.lst .o es) = if (cpL ds && cpL es && decide (ds.length + es.length ≤ 16777216)) = true then some (.lst .o (ds ++ es)) else none := id rfl
theorem w_cat3 : dCat (.lst .o ds) (.lst .f es) = if (cpL ds && cpL es && decide (ds.length + es.length ≤ 16777216)) = true then some (.lst .o (ds ++ es)) else none := id rfl
theorem w_cat4 : dCat (.lst .f ds) (.lst .f es) = if (cpL ds && cpL es && decide (ds.length + es.length ≤ 16777216)) = true then some (.lst .o (ds ++ es)) else none := id rfl
theorem w_ix {o : Md} : dIx (.lst o ds) (.int x) = (atI ds x).bind fun d => if cp d = true then some d else none := id rfl
theorem w_ixT : dIxT (.tup ds) (.int x) = atI ds x := id rfl
theorem w_sl {o : Md} {lo hi : Option Int} : dSl (.lst o ds) lo hi = if cpL ds = true then some (.lst .o (cutD ds lo hi)) else none := id rfl
end
theorem il_rev (a : List Int) : (il a).reverse = il a.reverse := (List.map_reverse ..).symm
theorem il_at {a : List Int} {i : Int} : atI (il a) i = (atI a i).map .int := by
  unfold atI
  rw [il_len]
  cases ixN a.length i with
  | none => rfl
  | some j =>
    show (il a)[j]? = (a[j]?).map .int
    unfold il
    rw [List.getElem?_map]
theorem il_get {a : List Int} {i : Nat} {d : D} (h : (il a)[i]? = some d) : ∃ z, a[i]? = some z ∧ d = .int z := by
  unfold il at h
  rw [List.getElem?_map] at h
  cases e : a[i]? with
  | none => rw [e] at h; cases h
  | some z => rw [e] at h; cases h; exact ⟨z, rfl, rfl⟩
theorem cut_seg {l : List Int} {i j : Int} {a b : Nat} (hi : i = (a : Int)) (hj : j = (b : Int)) (ha : a ≤ l.length) (hb : b ≤ l.length) : cutD (il l) (some i) (some j) = il (seg l a b) := by
  subst hi hj
  unfold cutD seg
  rw [HT.sIx_nat, HT.sIx_nat, il_len, Nat.min_eq_left ha, Nat.min_eq_left hb]
  unfold il
  rw [List.map_take, List.map_drop]
theorem cut_lo {l : List Int} {i : Int} {a : Nat} (hi : i = (a : Int)) (ha : a ≤ l.length) : cutD (il l) (some i) none = il (l.drop a) := by
  subst hi
  unfold cutD
  rw [HT.sIx_nat, HT.sIx_none, il_len, Nat.min_eq_left ha]
  unfold il
  rw [List.take_of_length_le (by rw [List.length_drop, List.length_map]; exact Nat.le_refl _), List.map_drop]
theorem cut_hi {l : List Int} {j : Int} {b : Nat} (hj : j = (b : Int)) (hb : b ≤ l.length) : cutD (il l) none (some j) = il (l.take b) := by
  subst hj
  unfold cutD
  rw [HT.sIx_nat, HT.sIx_none, il_len, Nat.min_eq_left hb, Nat.sub_zero, List.drop_zero]
  unfold il
  rw [List.map_take]
theorem at_nat {l : List Int} {i : Int} {a : Nat} (hi : i = (a : Int)) (ha : a < l.length) : atI l i = some (l.getD a 0) := by
  subst hi
  rw [atI_nat (List.getElem?_eq_getElem ha)]
  rw [List.getD_eq_getElem?_getD, List.getElem?_eq_getElem ha]
  rfl
theorem smallI_of {i : Int} (h : -4000000000000000000 ≤ i ∧ i ≤ 4000000000000000000) : smallI i = true := by
  unfold smallI
  rw [Bool.and_eq_true, decide_eq_true_eq, decide_eq_true_eq]
  have e : (2 : Int) ^ 62 = 4611686018427387904 := by decide
  omega
theorem smallI_nat {i : Nat} (h : i ≤ 4000000000000000000) : smallI (i : Int) = true := smallI_of (by omega)
theorem while_inv {mc : M Bool} {k : M Fl} (I : Nat → MS → Prop) {m : Nat} (hend : ∀ s, I m s → ∃ s1, mc s = .ok false s1 ∧ I m s1) : ∀ {t j : Nat} {s : MS}, I j s → j ≤ m → m < t + j → (∀ i s, i < m → I i s → ∃ s1 s2, mc s = .ok true s1 ∧ k s1 = .ok .nx s2 ∧ I (i + 1) s2) →
    ∃ s', mWhile mc k t s = .ok .nx s' ∧ I m s'
  | 0, j, s, h, h1, h2, hs => by omega
  | t + 1, j, s, h, h1, h2, hs => by
    by_cases c : j = m
    · subst c
      obtain ⟨s1, e, h'⟩ := hend s h
      refine ⟨s1, ?_, h'⟩
      show (mc s).bind _ = _
      rw [e]
      rfl
    · obtain ⟨s1, s2, e1, e2, h'⟩ := hs j s (by omega) h
      obtain ⟨s', e3, h3⟩ := while_inv I hend (t := t) h' (by omega) (by omega) hs
      refine ⟨s', ?_, h3⟩
      show (mc s).bind _ = _
      rw [e1, Rz.bind_ok, if_pos rfl, e2]
      exact e3
theorem while_dec {mc : M Bool} {k : M Fl} (I : Nat → MS → Prop) (P : MS → Prop) (hs : ∀ n s, I n s → (∃ s1, mc s = .ok false s1 ∧ P s1) ∨ ∃ n' s1 s2, n = n' + 1 ∧ mc s = .ok true s1 ∧ k s1 = .ok .nx s2 ∧ I n' s2) : ∀ {t n : Nat} {s : MS}, I n s → n < t → ∃ s', mWhile mc k t s = .ok .nx s' ∧ P s'
  | 0, n, s, _, h => absurd h (Nat.not_lt_zero _)
  | t + 1, n, s, h, hn => by
    rcases hs n s h with ⟨s1, e, hp⟩ | ⟨n', s1, s2, rfl, e1, e2, h'⟩
    · refine ⟨s1, ?_, hp⟩
      show (mc s).bind _ = _
      rw [e]
      rfl
    · obtain ⟨s', e3, h3⟩ := while_dec I P hs (t := t) h' (by omega)
      refine ⟨s', ?_, h3⟩
      show (mc s).bind _ = _
      rw [e1, Rz.bind_ok, if_pos rfl, e2]
      exact e3
theorem w_mulW {x y : Int} : dMulW (.int x) (.int y) = if cMulW x y = true then some (.int (x * y)) else none := id rfl
theorem loop_inv {mg : D → MS → Option MS} {k : M Fl} {ds : List D} (I : Nat → MS → Prop) {j : Nat} {s : MS} (h0 : I j s) (hs : ∀ i d s, ds[i]? = some d → I (j + i) s → ∃ s1 s2, mg d s = some s1 ∧ k s1 = .ok .nx s2 ∧ I (j + i + 1) s2) :
    ∃ s', loopL mg k ds s = .ok .nx s' ∧ I (j + ds.length) s' := by
  induction ds generalizing j s with
  | nil => exact ⟨s, rfl, h0⟩
  | cons d ds ih =>
    obtain ⟨s1, s2, e1, e2, h2⟩ := hs 0 d s rfl h0
    obtain ⟨s', e3, h3⟩ := ih (j := j + 1) (s := s2) h2 (fun i d s e h => by
      have := hs (i + 1) d s (by simpa using e) (by rw [show j + (i + 1) = j + 1 + i by omega]; exact h)
      rw [show j + (i + 1) + 1 = j + 1 + i + 1 by omega] at this
      exact this)
    refine ⟨s', ?_, by rw [List.length_cons, show j + (ds.length + 1) = j + 1 + ds.length by omega]; exact h3⟩
    unfold loopL
    rw [e1]
    dsimp only
    rw [e2]
    exact e3
/-- a loop that goes on while p holds, and answers x at the first place where it does not -/
theorem loop_all {mg : D → MS → Option MS} {k : M Fl} {p : D → Bool} {x : D} (I : MS → Prop) : ∀ {ds : List D} {s : MS}, I s → (∀ d s, d ∈ ds → I s → ∃ s1 s2, mg d s = some s1 ∧ k s1 = (if p d = true then .ok .nx s2 else .ok (.rt x) s2) ∧ I s2) →
    ∃ s', I s' ∧ loopL mg k ds s = if ds.all p = true then .ok .nx s' else .ok (.rt x) s'
  | [], s, h, _ => ⟨s, h, rfl⟩
  | d :: ds, s, h, hs => by
    obtain ⟨s1, s2, e1, e2, h2⟩ := hs d s List.mem_cons_self h
    cases hp : p d with
    | true =>
      rw [hp, if_pos rfl] at e2
      obtain ⟨s', h', e'⟩ := loop_all I h2 (fun d s hd => hs d s (List.mem_cons_of_mem _ hd))
      refine ⟨s', h', ?_⟩
      rw [List.all_cons, hp, Bool.true_and, ← e']
      unfold loopL
      rw [e1]
      dsimp only
      rw [e2]
      cases ds <;> rfl
    | false =>
      rw [hp, if_neg Bool.false_ne_true] at e2
      refine ⟨s2, h2, ?_⟩
      rw [List.all_cons, hp, Bool.false_and, if_neg Bool.false_ne_true]
      unfold loopL
      rw [e1]
      dsimp only
      rw [e2]
theorem range_get {lo : Int} {n i : Nat} {d : D} (h : (rangeD lo n)[i]? = some d) : i < n ∧ d = .int (lo + i) := by
  unfold rangeD at h
  rw [List.getElem?_map] at h
  cases e : (List.range n)[i]? with
  | none => rw [e] at h; cases h
  | some c =>
    rw [e] at h
    cases h
    obtain ⟨hl, e⟩ := List.getElem?_eq_some_iff.mp e
    rw [List.getElem_range] at e
    subst e
    exact ⟨by simpa using hl, rfl⟩
theorem range_len {lo : Int} {n : Nat} : (rangeD lo n).length = n := by unfold rangeD; rw [List.length_map, List.length_range]
end Mi

namespace Mi
open PySem PySem.Spec PyProof.Rows Hk
open L2 hiding Takes XE CX takes_of passes_call MkP PMk ps_raise mk_of ps_try_as passAt pmk_own
open L2N (Takes XE CX takes_of passes_call MkP PMk ps_raise mk_of ps_try_as passAt pmk_own)
/-! ## the evaluator: objects, places, methods -/
section
variable {ma mb mc m mo mi mv mk mz : M D} {ml : M Lo} {ms : M (List D)} {k k1 k2 : M Fl} {s s1 : MS} {d d1 d2 dv : D} {b : Bool} {i j : Nat} {ds es : List D} {c c2 a n f mn : Str} {F : Fm} {e : Exn} {x y : Int} {fr : List (Option D)} {wd : Option (List Ob)} {W : List Ob} {ob : Ob} {l : Lo} {p : List Nat} {ns : List Str} {as : List Ag} {xs : List (Sum D Nat)} {fi : Int → Int → Int} {fs : D → D → D → Option D}
def fobK (c f : Str) (ob : Ob) : Option D := if ob.c = c then look f ob.ns ob.ds else none
def kFld (c f : Str) (d : D) (s : MS) : Rz D := mOpt (fldOf c f d s) s
theorem o_getOb : getOb ⟨fr, some W⟩ i = W[i]? := id rfl
theorem o_setOb : setOb ⟨fr, some W⟩ i ob = ⟨fr, some (W.set i ob)⟩ := id rfl
theorem o_fld : mFld c f m s = (m s).bind (kFld c f) := id rfl
theorem o_fld1 : kFld c f d s = mOpt (fldOf c f d s) s := id rfl
theorem o_fld2 : fldOf c f (.fin c ns ds) s = look f ns ds := by
  show (if c = c then look f ns ds else none) = _
  rw [if_pos rfl]
theorem o_fld3 : fldOf c f (.obj i) s = (getOb s i).bind (fobK c f) := id rfl
theorem o_fld4 : fobK c f ⟨c, ns, ds⟩ = look f ns ds := by
  show (if c = c then look f ns ds else none) = _
  rw [if_pos rfl]
def oFS (o : Option MS) : Rz Fl := match o with
  | some s3 => .ok .nx s3
  | none => .bad
def kFS2 (c f : Str) (dv d : D) (s2 : MS) : Rz Fl := oFS (putOb c f d dv s2)
def kFS (c f : Str) (mo : M D) (dv : D) (s1 : MS) : Rz Fl := (mo s1).bind (kFS2 c f dv)
def pobK (i : Nat) (f : Str) (dv : D) (s : MS) (c : Str) (ob : Ob) : Option MS := if (decide (ob.c = c) && decide (ob.ns.length < 900)) = true then some (setOb s i ⟨ob.c, putNs f ob.ns, putDs f dv ob.ns ob.ds⟩) else none
theorem o_fs : mFldSet c f mo mv s = (mv s).bind (kFS c f mo) := id rfl
theorem o_fs1 : kFS c f mo dv s = (mo s).bind (kFS2 c f dv) := id rfl
theorem o_fs2 : kFS2 c f dv d s = oFS (putOb c f d dv s) := id rfl
theorem o_fs3 : oFS (some s) = .ok .nx s := id rfl
theorem o_fs4 : putOb c f (.obj i) dv s = (getOb s i).bind (pobK i f dv s c) := id rfl
theorem o_fs5 : pobK i f dv s c ⟨c, ns, ds⟩ = if ns.length < 900 then some (setOb s i ⟨c, putNs f ns, putDs f dv ns ds⟩) else none := by
  unfold pobK
  dsimp only
  rw [decide_eq_true (rfl : c = c), Bool.true_and]
  simp only [decide_eq_true_eq]
def kFA3 (c f : Str) (d : D) (z : Option D) (s2 : MS) : Rz Fl := match z with
  | none => .bad
  | some z => (match putOb c f d z s2 with
    | some s3 => .ok .nx s3
    | none => .bad)
def kFA2 (c f : Str) (fi : Int → Int → Int) (d x y : D) (s2 : MS) : Rz Fl := kFA3 c f d (dI fi x y) s2
def kFA1 (c f : Str) (fi : Int → Int → Int) (mv : M D) (d : D) (o : Option D) (s1 : MS) : Rz Fl := match o with
  | none => .bad
  | some x => (mv s1).bind (kFA2 c f fi d x)
def kFA (c f : Str) (fi : Int → Int → Int) (mv : M D) (d : D) (s1 : MS) : Rz Fl := kFA1 c f fi mv d (fldOf c f d s1) s1
theorem o_fa : mFldAug c f fi mo mv s = (mo s).bind (kFA c f fi mv) := id rfl
theorem o_fa1 : kFA c f fi mv d s = kFA1 c f fi mv d (fldOf c f d s) s := id rfl
theorem o_fa2 : kFA1 c f fi mv d (some d1) s = (mv s).bind (kFA2 c f fi d d1) := id rfl
theorem o_fa3 : kFA2 c f fi d (.int x) (.int y) s = oFS (putOb c f d (.int (fi x y)) s) := by
  unfold kFA2 oFS
  rfl
/-! places -/
def oLF (k : Nat) (c f : Str) (o : Option Ob) (s1 : MS) : Rz Lo := match o with
  | some ob => if (decide (ob.c = c) && (look f ob.ns ob.ds).isSome) = true then .ok ⟨.fl k f, []⟩ s1 else .bad
  | none => .bad
def kLF (c f : Str) (d : D) (s1 : MS) : Rz Lo := match d with
  | .obj k => oLF k c f (getOb s1 k) s1
  | _ => .bad
theorem o_lf : mlFld c f m s = (m s).bind (kLF c f) := id rfl
theorem o_lf1 : kLF c f (.obj i) s = oLF i c f (getOb s i) s := id rfl
theorem o_lf2 : oLF i c f (some ⟨c, ns, ds⟩) s = if (look f ns ds).isSome = true then .ok ⟨.fl i f, []⟩ s else .bad := by
  unfold oLF
  dsimp only
  rw [decide_eq_true (rfl : c = c), Bool.true_and]
def oLI (l : Lo) (d : D) (o : Option D) (s2 : MS) : Rz Lo := match o, d with
  | some (.lst .o ds), .int i => (match ixN ds.length i with
    | some j => if j < ds.length then .ok (l.push j) s2 else .bad
    | none => .bad)
  | _, _ => .bad
def oLJ (l : Lo) (n : Nat) (o : Option Nat) (s2 : MS) : Rz Lo := match o with
  | some j => if j < n then .ok (l.push j) s2 else .bad
  | none => .bad
def kLI2 (l : Lo) (d : D) (s2 : MS) : Rz Lo := oLI l d (getL s2 l) s2
def kLI (mi : M D) (l : Lo) (s1 : MS) : Rz Lo := (mi s1).bind (kLI2 l)
theorem o_li : mlIx ml mi s = (ml s).bind (kLI mi) := id rfl
theorem o_li1 : kLI mi l s = (mi s).bind (kLI2 l) := id rfl
theorem o_li2 : kLI2 l d s = oLI l d (getL s l) s := id rfl
theorem o_li3 : oLI l (.int x) (some (.lst .o ds)) s = oLJ l ds.length (ixN ds.length x) s := id rfl
theorem o_li4 : oLJ l i (some j) s = if j < i then .ok (l.push j) s else .bad := id rfl
theorem o_push : Lo.push ⟨rt, p⟩ j = ⟨rt, p ++ [j]⟩ := id rfl
def oGL (f : Str) (p : List Nat) (o : Option Ob) : Option D := match o with
  | some ob => (look f ob.ns ob.ds).bind (getP p)
  | none => none
theorem o_gl : getL ⟨fr, some W⟩ ⟨.fl i f, p⟩ = oGL f p W[i]? := id rfl
theorem o_gl1 : oGL f p (some ⟨c, ns, ds⟩) = (look f ns ds).bind (getP p) := id rfl
theorem o_gp : getP [] d = some d := by cases d <;> rfl
theorem o_gp1 : getP (i :: p) (.lst .o ds) = (ds[i]?).bind (getP p) := id rfl
def oSLd (k : Nat) (f : Str) (p : List Nat) (d' : D) (c : Str) (ns : List Str) (ds : List D) (o : Option D) (s : MS) : MS := match o with
  | some d => setOb s k ⟨c, ns, edit f (setP p d' d) ns ds⟩
  | none => s
def oSL (k : Nat) (f : Str) (p : List Nat) (d' : D) (o : Option Ob) (s : MS) : MS := match o with
  | some ob => oSLd k f p d' ob.c ob.ns ob.ds (look f ob.ns ob.ds) s
  | none => s
theorem o_sl : setL ⟨fr, some W⟩ ⟨.fl i f, p⟩ d = oSL i f p d W[i]? ⟨fr, some W⟩ := by
  unfold setL oSL oSLd
  dsimp only [o_getOb]
  show (match W[i]? with | some ob => _ | none => _) = _
  cases W[i]? with
  | none => rfl
  | some ob =>
    dsimp only
    all_goals (cases look f ob.ns ob.ds <;> rfl)
theorem o_sl1 : oSL i f p d (some ⟨c, ns, ds⟩) s = oSLd i f p d c ns ds (look f ns ds) s := id rfl
theorem o_sl2 : oSLd i f p d c ns ds (some d1) s = setOb s i ⟨c, ns, edit f (setP p d d1) ns ds⟩ := id rfl
theorem o_sp0 : setP [] d d1 = d := id rfl
def oSPl (i : Nat) (p : List Nat) (d' : D) (ds : List D) (o : Option D) : D := match o with
  | some d => .lst .o (ds.set i (setP p d' d))
  | none => .lst .o ds
theorem o_sp1 : setP (i :: p) d (.lst .o ds) = oSPl i p d ds ds[i]? := id rfl
theorem o_sp2 : oSPl i p d ds (some d1) = .lst .o (ds.set i (setP p d d1)) := id rfl
def kPlE (l : Lo) (s : MS) : Rz D := mOpt (getL s l) s
theorem o_ple : mPlE ml s = (ml s).bind kPlE := id rfl
theorem o_ple1 : kPlE l s = mOpt (getL s l) s := id rfl
def oPlF (l : Lo) (o : Option D) (s : MS) : Rz D := match o with
  | some d => .ok (frz d) (setL s l (frz d))
  | none => .bad
def kPlF (l : Lo) (s : MS) : Rz D := oPlF l (getL s l) s
theorem o_plf : mPlF ml s = (ml s).bind kPlF := id rfl
theorem o_plf1 : kPlF l s = oPlF l (getL s l) s := id rfl
theorem o_plf2 : oPlF l (some d) s = .ok (frz d) (setL s l (frz d)) := id rfl
def oEx2 (l : Lo) (o : Option (D × List D)) (s2 : MS) : Rz D := match o with
  | some (d, ds') => .ok d (setL s2 l (.lst .o ds'))
  | none => .bad
def kEx2 (l : Lo) (ds : List D) (da : D) (s2 : MS) : Rz D := oEx2 l (fExtend ds [da]) s2
def oEx (ma : M D) (l : Lo) (o : Option D) (s1 : MS) : Rz D := match o with
  | some (.lst .o ds) => (ma s1).bind (kEx2 l ds)
  | _ => .bad
def kEx (ma : M D) (l : Lo) (s1 : MS) : Rz D := oEx ma l (getL s1 l) s1
theorem o_ex : mExtP ml ma s = (ml s).bind (kEx ma) := id rfl
theorem o_ex1 : kEx ma l s = oEx ma l (getL s l) s := id rfl
theorem o_ex2 : oEx ma l (some (.lst .o ds)) s = (ma s).bind (kEx2 l ds) := id rfl
theorem o_ex3 : kEx2 l ds d s = oEx2 l (fExtend ds [d]) s := id rfl
theorem o_ex4 : oEx2 l (some (d, ds)) s = .ok d (setL s l (.lst .o ds)) := id rfl
theorem o_ext1 : fExtend ds [.lst .o es] = if (cpL es && decide (ds.length + es.length ≤ 16777216)) = true then some (.non, ds ++ es) else none := id rfl
theorem o_ext2 : fExtend ds [.lst .f es] = if (cpL es && decide (ds.length + es.length ≤ 16777216)) = true then some (.non, ds ++ es) else none := id rfl
def oSP3 (l : Lo) (o : Option D) (s3 : MS) : Rz Fl := match o with
  | some c' => .ok .nx (setL s3 l c')
  | none => .bad
def oSP2 (fs : D → D → D → Option D) (l : Lo) (di dv : D) (o : Option D) (s3 : MS) : Rz Fl := match o with
  | some c => oSP3 l (fs c di dv) s3
  | none => .bad
def kSP2 (fs : D → D → D → Option D) (dv : D) (l : Lo) (di : D) (s3 : MS) : Rz Fl := if cp di = true then oSP2 fs l di dv (getL s3 l) s3 else .bad
def kSP1 (fs : D → D → D → Option D) (mi : M D) (dv : D) (l : Lo) (s2 : MS) : Rz Fl := (mi s2).bind (kSP2 fs dv l)
def kSP (fs : D → D → D → Option D) (ml : M Lo) (mi : M D) (dv : D) (s1 : MS) : Rz Fl := (ml s1).bind (kSP1 fs mi dv)
theorem o_setp : mSetP fs ml mi mv s = (mv s).bind (kSP fs ml mi) := by
  unfold mSetP kSP kSP1 kSP2 oSP2 oSP3
  rfl
theorem o_setp1 : kSP fs ml mi dv s = (ml s).bind (kSP1 fs mi dv) := id rfl
theorem o_setp2 : kSP1 fs mi dv l s = (mi s).bind (kSP2 fs dv l) := id rfl
theorem o_setp3 : kSP2 fs dv l (.int x) s = oSP2 fs l (.int x) dv (getL s l) s := id rfl
theorem o_setp4 {z : Str} : kSP2 fs dv l (.str z) s = oSP2 fs l (.str z) dv (getL s l) s := id rfl
theorem o_setp5 : oSP2 fs l d dv (some d1) s = oSP3 l (fs d1 d dv) s := id rfl
theorem o_setp6 : oSP3 l (some d) s = .ok .nx (setL s l d) := id rfl
def oSL4 (ds : List D) (dv : D) (o : Option Nat) : Option D := match o with
  | some j => if j < ds.length then some (.lst .o (ds.set j dv)) else none
  | none => none
theorem o_dsetl : dSetL (.lst .o ds) (.int x) dv = oSL4 ds dv (ixN ds.length x) := id rfl
theorem o_dsetl1 : oSL4 ds dv (some j) = if j < ds.length then some (.lst .o (ds.set j dv)) else none := id rfl
/-! methods, calls with objects -/
def oCls (c mn : Str) (o : Option Ob) : Bool := match o with
  | some ob => decide (ob.c = c) && !(ob.ns.contains mn)
  | none => false
def kME2 (F : Fm) (d : D) (xs : List (Sum D Nat)) (s2 : MS) : Rz D := afterE F s2 (.inl d :: xs)
def kME (c mn : Str) (F : Fm) (as : List Ag) (d : D) (s1 : MS) : Rz D := if (isCls c mn d s1 && hasIo as s1) = true then (mAgs as s1).bind (kME2 F d) else .bad
theorem o_me : mMethE c mn F mo as s = (mo s).bind (kME c mn F as) := id rfl
theorem o_me1 : kME c mn F as d s = if (isCls c mn d s && hasIo as s) = true then (mAgs as s).bind (kME2 F d) else .bad := id rfl
theorem o_me2 : kME2 F d xs s = afterE F s (.inl d :: xs) := id rfl
theorem o_cls : isCls c mn (.obj i) s = oCls c mn (getOb s i) := id rfl
theorem o_cls1 : oCls c mn (some ⟨c, ns, ds⟩) = !(ns.contains mn) := by
  unfold oCls
  dsimp only
  rw [decide_eq_true (rfl : c = c), Bool.true_and]
theorem o_cls2 : isCls c mn (.fin c ns ds) s = !(ns.contains mn) := by
  show (decide (c = c) && !(ns.contains mn)) = _
  rw [decide_eq_true (rfl : c = c), Bool.true_and]
theorem o_io0 : hasIo [] s = true := id rfl
theorem o_io1 : hasIo (.c m :: as) s = hasIo as s := id rfl
theorem o_ag0 : mAgs [] s = .ok [] s := id rfl
def kAg2 (x : Sum D Nat) (xs : List (Sum D Nat)) (s : MS) : Rz (List (Sum D Nat)) := .ok (x :: xs) s
def kAg (as : List Ag) (d : D) (s : MS) : Rz (List (Sum D Nat)) := (mAgs as s).bind (kAg2 (.inl d))
theorem o_ag1 : mAgs (.c m :: as) s = (m s).bind (kAg as) := id rfl
theorem o_ag2 : kAg as d s = (mAgs as s).bind (kAg2 (.inl d)) := id rfl
theorem o_ag3 {z : Sum D Nat} : kAg2 z xs s = .ok (z :: xs) s := id rfl
theorem o_ag4 : mAgs (.io j :: as) s = (mAgs as s).bind (kAg2 (.inr j)) := id rfl
/-- a call's answer when no slot was handed over -/
def oAE (fr : List (Option D)) (xs : List (Sum D Nat)) (r : Rf) : Rz D := match r with
  | .ok d os wd => (match putA fr xs os with
    | some fr => .ok d ⟨fr, wd⟩
    | none => .bad)
  | .er e os wd => (match putA fr xs os with
    | some fr => .er e ⟨fr, wd⟩
    | none => .bad)
  | .bad => .bad
def oTA (F : Fm) (wd : Option (List Ob)) (xs : List (Sum D Nat)) (o : Option (List D × List (Option D))) : Rz D := match o with
  | none => .bad
  | some y => oAE y.2 xs (F wd y.1)
theorem o_ae : afterE F ⟨fr, wd⟩ xs = oTA F wd xs (takeA fr xs) := id rfl
theorem o_ae1 {y : List D × List (Option D)} : oTA F wd xs (some y) = oAE y.2 xs (F wd y.1) := id rfl
def consA (d : D) (y : List D × List (Option D)) : List D × List (Option D) := (d :: y.1, y.2)
theorem o_ta0 : takeA fr [] = some ([], fr) := id rfl
theorem o_ta1 : takeA fr (.inl d :: xs) = (takeA fr xs).map (consA d) := id rfl
theorem o_ta2 {y : List D × List (Option D)} : consA d y = (d :: y.1, y.2) := id rfl
theorem o_pa0 : putA fr [] [] = some fr := id rfl
theorem o_pa1 : putA fr (.inl d :: xs) es = putA fr xs es := by cases es <;> rfl
theorem o_ae2 (h : putA fr xs es = some fr2) : oAE fr xs (.ok d es wd) = .ok d ⟨fr2, wd⟩ := by
  unfold oAE
  dsimp only
  rw [h]
theorem o_ae3 (h : putA fr xs es = some fr2) : oAE fr xs (.er e es wd) = .er e ⟨fr2, wd⟩ := by
  unfold oAE
  dsimp only
  rw [h]
def oPut (d : D) (wd : Option (List Ob)) (o : Option (List (Option D))) : Rz D := match o with
  | some fr => .ok d ⟨fr, wd⟩
  | none => .bad
def oPutE (e : Exn) (wd : Option (List Ob)) (o : Option (List (Option D))) : Rz D := match o with
  | some fr => .er e ⟨fr, wd⟩
  | none => .bad
theorem o_ae4 : oAE fr xs (.ok d es wd) = oPut d wd (putA fr xs es) := id rfl
theorem o_ae5 : oAE fr xs (.er e es wd) = oPutE e wd (putA fr xs es) := id rfl
theorem o_ae6 : oPut d wd (some fr) = .ok d ⟨fr, wd⟩ := id rfl
theorem o_ae7 : oPutE e wd (some fr) = .er e ⟨fr, wd⟩ := id rfl
theorem o_callE : mCallE' F as s = if hasIo as s = true then (mAgs as s).bind fun xs s1 => afterE F s1 xs else .bad := id rfl
def kCE (F : Fm) (xs : List (Sum D Nat)) (s1 : MS) : Rz D := afterE F s1 xs
theorem o_callE1 : mCallE' F as s = if hasIo as s = true then (mAgs as s).bind (kCE F) else .bad := id rfl
theorem o_callE2 : kCE F xs s = afterE F s xs := id rfl
def kMP (c mn : Str) (F : Fm) (ms : M (List D)) (d : D) (s1 : MS) : Rz D := if isCls c mn d s1 = true then (ms s1).bind fun ds s2 => afterP F (d :: ds) s2 else .bad
def kMP2 (F : Fm) (d : D) (ds : List D) (s2 : MS) : Rz D := afterP F (d :: ds) s2
theorem o_mp : mMethP c mn F mo ms s = (mo s).bind (kMP c mn F ms) := id rfl
theorem o_mp1 : kMP c mn F ms d s = if isCls c mn d s = true then (ms s).bind (kMP2 F d) else .bad := id rfl
theorem o_mp2 : kMP2 F d ds s = afterP F (d :: ds) s := id rfl
/-! comprehensions -/
def oLc (o : Option (List D)) (s1 : MS) : Rz D := match o with
  | some ys => .ok (.lst .o ys) s1
  | none => .bad
def kLc (vs : List Nat) (mg : D → MS → Option MS) (mt : M Bool) (me : M D) (ds : List D) (s1 : MS) : Rz D := if ds.length ≤ 16777216 then oLc (compL (turnC mg mt me ⟨wipeF s1.fr vs, s1.wd⟩) ds) s1 else .bad
theorem o_lc {mi : M (List D)} {vs : List Nat} {mg : D → MS → Option MS} {mt : M Bool} {me : M D} : mLc mi vs mg mt me s = (mi s).bind (kLc vs mg mt me) := id rfl
theorem o_lc1 {vs : List Nat} {mg : D → MS → Option MS} {mt : M Bool} {me : M D} : kLc vs mg mt me ds ⟨fr, wd⟩ = if ds.length ≤ 16777216 then oLc (compL (turnC mg mt me ⟨wipeF fr vs, wd⟩) ds) ⟨fr, wd⟩ else .bad := id rfl
theorem o_lc2 : oLc (some ds) s = .ok (.lst .o ds) s := id rfl
end
theorem comp_map {f : D → Option (Option D)} {h : D → D} : ∀ {ds : List D}, (∀ d ∈ ds, f d = some (some (h d))) → compL f ds = some (ds.map h)
  | [], _ => rfl
  | d :: ds, hs => by
    unfold compL
    rw [hs d List.mem_cons_self]
    dsimp only
    rw [comp_map (fun d hd => hs d (List.mem_cons_of_mem _ hd))]
    rfl
end Mi

namespace Mi
open PySem PySem.Spec PyProof.Rows Hk
open L2 hiding Takes XE CX takes_of passes_call MkP PMk ps_raise mk_of ps_try_as passAt pmk_own
open L2N (Takes XE CX takes_of passes_call MkP PMk ps_raise mk_of ps_try_as passAt pmk_own)
/-! ## the evaluator: try, dicts, makes -/
section
variable {ma mb mc m mo mi mv mk mz : M D} {ml : M Lo} {ms : M (List D)} {k k1 k2 : M Fl} {s s1 : MS} {d d1 d2 dv dz : D} {b : Bool} {i j n : Nat} {ds es os : List D} {c c2 a f mn : Str} {F : Fm} {e : Exn} {x y : Int} {fr : List (Option D)} {wd : Option (List Ob)} {W W2 : List Ob} {ob : Ob} {l : Lo} {p : List Nat} {ns : List Str} {as : List Ag} {xs : List (Sum D Nat)} {ks : List Key} {q : Key} {sub : Str → Option Bool}
theorem q_exc : (Exn.mk c).c = c := id rfl
def oTO2 (r : Rz Fl) : Rz Fl := match r with
  | .ok f s2 => .ok f s2
  | _ => .bad
def oTO1 (e : Exn) (h : M Fl) (s1 : MS) (o : Option Bool) : Rz Fl := match o with
  | some true => oTO2 (h s1)
  | some false => .er e s1
  | none => .bad
def oTO (sub : Str → Option Bool) (h : M Fl) (r : Rz Fl) : Rz Fl := match r with
  | .er e s1 => oTO1 e h s1 (sub e.c)
  | r => r
theorem q_try : mTryO sub k k1 s = oTO sub k1 (k s) := id rfl
theorem q_tryE : oTO sub k (.er e s) = oTO1 e k s (sub e.c) := id rfl
theorem q_tryO {f : Fl} : oTO sub k (.ok f s) = .ok f s := id rfl
theorem q_try1 : oTO1 e k s (some true) = oTO2 (k s) := id rfl
theorem q_try0 : oTO1 e k s (some false) = .er e s := id rfl
theorem q_try2 {f : Fl} : oTO2 (.ok f s) = .ok f s := id rfl
def oTA2 (i : Nat) (r : Rz Fl) : Rz Fl := match r with
  | .ok f s2 => .ok f (clr s2 i)
  | _ => .bad
def oTA1 (i : Nat) (e : Exn) (h : Exn → M Fl) (s1 : MS) (o : Option Bool) : Rz Fl := match o with
  | some true => if i < s1.fr.length then oTA2 i (h e (clr s1 i)) else .bad
  | some false => .er e s1
  | none => .bad
def oTAs (i : Nat) (sub : Str → Option Bool) (h : Exn → M Fl) (r : Rz Fl) : Rz Fl := match r with
  | .er e s1 => oTA1 i e h s1 (sub e.c)
  | r => r
theorem q_tas {h : Exn → M Fl} : mTryAs i sub k h s = oTAs i sub h (k s) := id rfl
theorem q_tasE {h : Exn → M Fl} : oTAs i sub h (.er e s) = oTA1 i e h s (sub e.c) := id rfl
theorem q_tasO {h : Exn → M Fl} {f : Fl} : oTAs i sub h (.ok f s) = .ok f s := id rfl
theorem q_tas1 {h : Exn → M Fl} : oTA1 i e h ⟨fr, wd⟩ (some true) = if i < fr.length then oTA2 i (h e ⟨fr.set i none, wd⟩) else .bad := id rfl
theorem q_tas0 {h : Exn → M Fl} : oTA1 i e h s (some false) = .er e s := id rfl
theorem q_tas2 {f : Fl} : oTA2 i (.ok f ⟨fr, wd⟩) = .ok f ⟨fr.set i none, wd⟩ := id rfl
theorem q_kit : mKit sub ⟨c⟩ s = mOpt ((sub c).map .bl) s := id rfl
/-! dicts -/
def kDG2 (d1 d2 : D) (s : MS) : Rz D := mOpt (dDGet1 d1 d2) s
def kDG (mb : M D) (d1 : D) (s : MS) : Rz D := if isDic d1 = true then (mb s).bind (kDG2 d1) else .bad
theorem q_dg : mDGet1 true ma mb s = (ma s).bind (kDG mb) := id rfl
theorem q_dg1 : kDG mb (.dic b ks ds) s = (mb s).bind (kDG2 (.dic b ks ds)) := id rfl
theorem q_dg2 : kDG2 d1 d2 s = mOpt (dDGet1 d1 d2) s := id rfl
def oPop4 (l : Lo) (dz : D) (ks : List Key) (ds : List D) (k : Key) (o : Option D) (s3 : MS) : Rz D := match o with
  | some d => if cp d = true then .ok d (setL s3 l (.dic true (dropKs k ks) (dropDs k ks ds))) else .bad
  | none => .ok dz s3
def oPop3 (l : Lo) (dz : D) (o : Option D) (k : Option Key) (s3 : MS) : Rz D := match o, k with
  | some (.dic true ks ds), some k => oPop4 l dz ks ds k (lookD k ks ds) s3
  | _, _ => .bad
def kPop3 (l : Lo) (dk dz : D) (s3 : MS) : Rz D := oPop3 l dz (getL s3 l) (keyD dk) s3
def kPop2 (mz : M D) (l : Lo) (dk : D) (s2 : MS) : Rz D := if cp dk = true then (mz s2).bind (kPop3 l dk) else .bad
def oPop (mk mz : M D) (l : Lo) (o : Option D) (s1 : MS) : Rz D := match o with
  | some (.dic true _ _) => (mk s1).bind (kPop2 mz l)
  | _ => .bad
def kPop (mk mz : M D) (l : Lo) (s1 : MS) : Rz D := oPop mk mz l (getL s1 l) s1
theorem q_pop : mPop2 ml mk mz s = (ml s).bind (kPop mk mz) := by
  unfold mPop2 kPop oPop kPop2 kPop3 oPop3 oPop4
  rfl
theorem q_pop1 : kPop mk mz l s = oPop mk mz l (getL s l) s := id rfl
theorem q_pop2 : oPop mk mz l (some (.dic true ks ds)) s = (mk s).bind (kPop2 mz l) := id rfl
theorem q_pop3 {z : Str} : kPop2 mz l (.str z) s = (mz s).bind (kPop3 l (.str z)) := id rfl
theorem q_pop3i : kPop2 mz l (.int x) s = (mz s).bind (kPop3 l (.int x)) := id rfl
theorem q_pop4 {z : Str} : kPop3 l (.str z) dz s = oPop3 l dz (getL s l) (some (.inr z)) s := id rfl
theorem q_pop4i : kPop3 l (.int x) dz s = oPop3 l dz (getL s l) (some (.inl x)) s := id rfl
theorem q_pop5 : oPop3 l dz (some (.dic true ks ds)) (some q) s = oPop4 l dz ks ds q (lookD q ks ds) s := id rfl
theorem q_pop6 : oPop4 l dz ks ds q none s = .ok dz s := id rfl
theorem q_pop7 (h : cp d = true) : oPop4 l dz ks ds q (some d) s = .ok d (setL s l (.dic true (dropKs q ks) (dropDs q ks ds))) := by
  unfold oPop4
  dsimp only
  rw [if_pos h]
theorem q_lenD : dLenD (.dic b ks ds) = some (.int ks.length) := id rfl
/-! makes -/
def oMk3 (n : Nat) (d : D) (o : Option (List (Option D))) (W' : List Ob) : Rz D := match d, o with
  | .non, some fr => .ok (.obj n) ⟨fr, some W'⟩
  | _, _ => .bad
def oMk4 (e : Exn) (o : Option (List (Option D))) (W' : List Ob) : Rz D := match o with
  | some fr => .er e ⟨fr, some W'⟩
  | none => .bad
def oMk2 (n : Nat) (fr : List (Option D)) (xs : List (Sum D Nat)) (r : Rf) : Rz D := match r with
  | .ok d os (some W') => oMk3 n d (putA fr xs os) W'
  | .er e os (some W') => oMk4 e (putA fr xs os) W'
  | _ => .bad
def oMk1 (c : Str) (F : Fm) (W : List Ob) (xs : List (Sum D Nat)) (o : Option (List D × List (Option D))) : Rz D := match o with
  | none => .bad
  | some y => oMk2 W.length y.2 xs (F (some (W ++ [⟨c, [], []⟩])) (.obj W.length :: y.1))
def kMk (c : Str) (F : Fm) (xs : List (Sum D Nat)) (s1 : MS) : Rz D := afterMake c F s1 xs
theorem q_mk : mMake c F as s = if hasIo as s = true then (mAgs as s).bind (kMk c F) else .bad := id rfl
theorem q_mk1 : kMk c F xs ⟨fr, some W⟩ = oMk1 c F W xs (takeA fr xs) := by
  unfold kMk afterMake oMk1 oMk2 oMk3 oMk4
  rfl
theorem q_mk2 {y : List D × List (Option D)} : oMk1 c F W xs (some y) = oMk2 W.length y.2 xs (F (some (W ++ [⟨c, [], []⟩])) (.obj W.length :: y.1)) := id rfl
theorem q_mk3 : oMk2 n fr xs (.ok .non os (some W)) = oMk3 n .non (putA fr xs os) W := id rfl
theorem q_mk4 : oMk2 n fr xs (.er e os (some W)) = oMk4 e (putA fr xs os) W := id rfl
theorem q_mk5 : oMk3 n .non (some fr) W = .ok (.obj n) ⟨fr, some W⟩ := id rfl
theorem q_mk6 : oMk4 e (some fr) W = .er e ⟨fr, some W⟩ := id rfl
def oGF (c f : Str) (d : D) (r : Rz D) : Option MS := match r with
  | .ok od s1 => putOb c f od d s1
  | _ => none
theorem q_gf : mgFld c f mo d s = oGF c f d (mo s) := id rfl
theorem q_gf1 : oGF c f d (.ok d1 s) = putOb c f d1 d s := id rfl
/-! a turn of a comprehension -/
def oTC3 (r : Rz D) : Option (Option D) := match r with
  | .ok y _ => some (some y)
  | _ => none
def oTC2 (me : M D) (r : Rz Bool) : Option (Option D) := match r with
  | .ok true s3 => oTC3 (me s3)
  | .ok false _ => some none
  | _ => none
def oTC1 (mt : M Bool) (me : M D) (o : Option MS) : Option (Option D) := match o with
  | none => none
  | some s2 => oTC2 me (mt s2)
theorem q_tc {mg : D → MS → Option MS} {mt : M Bool} {me : M D} : turnC mg mt me s d = oTC1 mt me (mg d s) := id rfl
theorem q_tc1 {mt : M Bool} {me : M D} : oTC1 mt me (some s) = oTC2 me (mt s) := id rfl
theorem q_tc2 {me : M D} : oTC2 me (.ok true s) = oTC3 (me s) := id rfl
theorem q_tc2f {me : M D} : oTC2 me (.ok false s) = some none := id rfl
theorem q_tc3 : oTC3 (.ok d s) = some (some d) := id rfl
theorem q_true : mTrue s = .ok true s := id rfl
/-! slots that are handed over -/
def oTkI (fr : List (Option D)) (j : Nat) (xs : List (Sum D Nat)) (o : Option (Option D)) : Option (List D × List (Option D)) := match o with
  | some (some d) => (takeA (fr.set j none) xs).map (consA d)
  | _ => none
theorem q_ta3 : takeA fr (.inr j :: xs) = oTkI fr j xs fr[j]? := id rfl
theorem q_ta4 : oTkI fr j xs (some (some d)) = (takeA (fr.set j none) xs).map (consA d) := id rfl
def oPtI (fr : List (Option D)) (j : Nat) (xs : List (Sum D Nat)) (d : D) (os : List D) (o : Option (Option D)) : Option (List (Option D)) := match o with
  | some none => putA (fr.set j (some d)) xs os
  | _ => none
theorem q_pa2 : putA fr (.inr j :: xs) (d :: os) = oPtI fr j xs d os fr[j]? := by
  unfold oPtI
  rfl
theorem q_pa3 : oPtI fr j xs d os (some none) = putA (fr.set j (some d)) xs os := id rfl
def oIo (o : Option (Option D)) : Bool := match o with
  | some (some _) => true
  | _ => false
theorem q_io2 : hasIo (.io j :: as) ⟨fr, wd⟩ = (oIo fr[j]? && hasIo as ⟨fr, wd⟩) := by
  unfold oIo
  rfl
theorem q_io3 : oIo (some (some d)) = true := id rfl
def oOut (o : Option (List D)) (d : D) (wd : Option (List Ob)) : Rf := match o with
  | some os => .ok d os wd
  | none => .bad
theorem q_fnR {io : List Nat} : oFn io (.ok (.rt d) ⟨fr, wd⟩) = oOut (outs fr io) d wd := id rfl
theorem q_fnN {io : List Nat} : oFn io (.ok .nx ⟨fr, wd⟩) = oOut (outs fr io) .non wd := id rfl
theorem q_out : oOut (some os) d wd = .ok d os wd := id rfl
def oOu1 (fr : List (Option D)) (i : Nat) (io : List Nat) (o : Option (Option D)) : Option (List D) := match o with
  | some (some d) => (outs (fr.set i none) io).map fun os => d :: os
  | _ => none
theorem q_out0 : outs fr [] = some [] := by cases fr <;> rfl
theorem q_out1 {io : List Nat} : outs fr (i :: io) = oOu1 fr i io fr[i]? := by
  unfold oOu1
  rfl
theorem q_out2 {io : List Nat} : oOu1 fr i io (some (some d)) = (outs (fr.set i none) io).map fun os => d :: os := id rfl
/-! boxes -/
def oLob (i : Nat) (o : Option Ob) (s1 : MS) : Rz Lo := match o with
  | some ob => if (boxP [] ob).isSome = true then .ok ⟨.ob i, []⟩ s1 else .bad
  | none => .bad
def kLob (d : D) (s1 : MS) : Rz Lo := match d with
  | .obj k => oLob k (getOb s1 k) s1
  | _ => .bad
theorem q_lob : mlObj mo s = (mo s).bind kLob := id rfl
theorem q_lob1 : kLob (.obj i) s = oLob i (getOb s i) s := id rfl
theorem q_boxP : boxP p ⟨bxN, [], [d]⟩ = getP p d := by
  show (if bxN = bxN then _ else _) = _
  rw [if_pos rfl]
theorem q_lob2 : oLob i (some ⟨bxN, [], [d]⟩) s = .ok ⟨.ob i, []⟩ s := by
  unfold oLob
  dsimp only
  rw [q_boxP]
  have : getP [] d = some d := by cases d <;> rfl
  rw [this]
  rfl
def oGB (p : List Nat) (o : Option Ob) : Option D := match o with
  | some ob => boxP p ob
  | none => none
theorem q_gb : getL ⟨fr, some W⟩ ⟨.ob i, p⟩ = oGB p W[i]? := id rfl
theorem q_gb1 : oGB p (some ⟨bxN, [], [d]⟩) = getP p d := q_boxP
def oSB (i : Nat) (p : List Nat) (d' : D) (o : Option Ob) (s : MS) : MS := match o with
  | some ob => setOb s i (boxS p d' ob)
  | none => s
theorem q_sb : setL ⟨fr, some W⟩ ⟨.ob i, p⟩ d = oSB i p d W[i]? ⟨fr, some W⟩ := by
  unfold setL oSB
  dsimp only [o_getOb]
  rfl
theorem q_sb1 : oSB i p d (some ⟨bxN, [], [d1]⟩) s = setOb s i ⟨bxN, [], [setP p d d1]⟩ := id rfl
def kBox (d : D) (s1 : MS) : Rz D := match s1.wd with
  | none => .bad
  | some Wd => if isBx d = true then .ok (.obj Wd.length) ⟨s1.fr, some (Wd ++ [⟨bxN, [], [d]⟩])⟩ else .bad
theorem q_box : mBox m s = (m s).bind kBox := id rfl
theorem q_boxL : kBox (.lst .o ds) ⟨fr, some W⟩ = .ok (.obj W.length) ⟨fr, some (W ++ [⟨bxN, [], [.lst .o ds]⟩])⟩ := id rfl
theorem q_boxD : kBox (.dic true ks ds) ⟨fr, some W⟩ = .ok (.obj W.length) ⟨fr, some (W ++ [⟨bxN, [], [.dic true ks ds]⟩])⟩ := id rfl
def oObL (mgs : List D → MS → Option MS) (o : Option D) (s : MS) : Option MS := match o with
  | some (.lst .o ds) => if cpL ds = true then mgs ds s else none
  | _ => none
theorem q_obl {mgs : List D → MS → Option MS} : mgObL mgs (.obj i) s = (getOb s i).bind fun ob => oObL mgs (boxP [] ob) s := by
  unfold mgObL oObL
  rfl
theorem q_obl1 {mgs : List D → MS → Option MS} : oObL mgs (some (.lst .o ds)) s = if cpL ds = true then mgs ds s else none := id rfl
def oMuP3 (l : Lo) (o : Option (D × List D)) (s2 : MS) : Rz D := match o with
  | some (d, ds') => .ok d (setL s2 l (.lst .o ds'))
  | none => .bad
def kMuP2 (l : Lo) (f : List D → List D → Option (D × List D)) (ds args : List D) (s2 : MS) : Rz D := oMuP3 l (f ds args) s2
def oMuP (f : List D → List D → Option (D × List D)) (ms : M (List D)) (l : Lo) (o : Option D) (s1 : MS) : Rz D := match o with
  | some (.lst .o ds) => (ms s1).bind (kMuP2 l f ds)
  | _ => .bad
def kMuP (f : List D → List D → Option (D × List D)) (ms : M (List D)) (l : Lo) (s1 : MS) : Rz D := oMuP f ms l (getL s1 l) s1
theorem q_mup {f : List D → List D → Option (D × List D)} : mMutP ml f ms s = (ml s).bind (kMuP f ms) := by
  unfold mMutP kMuP oMuP kMuP2 oMuP3
  rfl
theorem q_mup1 {f : List D → List D → Option (D × List D)} : kMuP f ms l s = oMuP f ms l (getL s l) s := id rfl
theorem q_mup2 {f : List D → List D → Option (D × List D)} : oMuP f ms l (some (.lst .o ds)) s = (ms s).bind (kMuP2 l f ds) := id rfl
theorem q_mup3 {f : List D → List D → Option (D × List D)} : kMuP2 l f ds es s = oMuP3 l (f ds es) s := id rfl
theorem q_mup5 : oMuP3 l (some (d, ds)) s = .ok d (setL s l (.lst .o ds)) := id rfl
theorem q_ins {i : Int} : fInsert ds [.int i, d] = insAt ds i d := id rfl
theorem q_isN {neg : Bool} {ds : List D} : dIsN neg (.tup ds) .non = some (.bl (if neg then true else false)) := by cases neg <;> rfl
theorem q_isN0 {neg : Bool} : dIsN neg .non .non = some (.bl (if neg then false else true)) := by cases neg <;> rfl
theorem q_isNl {neg : Bool} {o : Md} {ds : List D} : dIsN neg (.lst o ds) .non = some (.bl (if neg then true else false)) := by cases neg <;> rfl
theorem q_isNi {neg : Bool} : dIsN neg (.int x) .non = some (.bl (if neg then true else false)) := by cases neg <;> rfl
theorem q_isNs {neg : Bool} {z : Str} : dIsN neg (.str z) .non = some (.bl (if neg then true else false)) := by cases neg <;> rfl
theorem q_isNo {neg : Bool} : dIsN neg (.obj i) .non = some (.bl (if neg then true else false)) := by cases neg <;> rfl
theorem q_isNb {neg : Bool} : dIsN neg (.bl b) .non = some (.bl (if neg then true else false)) := by cases neg <;> rfl
end
theorem get_app {W : List Ob} {o : Ob} {i : Nat} (h : i < W.length) : (W ++ [o])[i]? = W[i]? := List.getElem?_append_left h
theorem get_app2 {W : List Ob} {o : Ob} : (W ++ [o])[W.length]? = some o := by rw [List.getElem?_append_right (Nat.le_refl _), Nat.sub_self]; rfl
end Mi

namespace Mi
open PySem PySem.Spec PyProof.Rows Hk
open L2 hiding Takes XE CX takes_of passes_call MkP PMk ps_raise mk_of ps_try_as passAt pmk_own
open L2N (Takes XE CX takes_of passes_call MkP PMk ps_raise mk_of ps_try_as passAt pmk_own)
def ev := (And.intro (And.intro (And.intro (And.intro (And.intro (And.intro (And.intro @Mi.e_bok @Mi.e_ber) (And.intro @Mi.e_bbad (And.intro @Mi.e_seq @Mi.e_seq1))) (And.intro (And.intro @Mi.e_seq2 (And.intro @Mi.e_seq3 @Mi.e_seq4)) (And.intro @Mi.e_fl (And.intro @Mi.e_er @Mi.e_drop)))) (And.intro (And.intro (And.intro @Mi.e_drop1 @Mi.e_ret) (And.intro @Mi.e_ret1 (And.intro @Mi.e_if @Mi.e_ifE))) (And.intro (And.intro @Mi.e_ifT (And.intro @Mi.e_ifF @Mi.e_b)) (And.intro @Mi.e_b1 (And.intro @Mi.e_tru @Mi.e_tru1))))) (And.intro (And.intro (And.intro (And.intro @Mi.e_not @Mi.e_not1) (And.intro @Mi.e_and (And.intro @Mi.e_andT @Mi.e_andF))) (And.intro (And.intro @Mi.e_or (And.intro @Mi.e_orT @Mi.e_orF)) (And.intro @Mi.e_andv (And.intro @Mi.e_andvT @Mi.e_andvF)))) (And.intro (And.intro (And.intro @Mi.e_orv (And.intro @Mi.e_orvT @Mi.e_orvF)) (And.intro @Mi.e_bin (And.intro @Mi.e_bin1 @Mi.e_bin2))) (And.intro (And.intro @Mi.e_bin3 (And.intro @Mi.e_un @Mi.e_un1)) (And.intro @Mi.e_some (And.intro @Mi.e_none @Mi.e_c)))))) (And.intro (And.intro (And.intro (And.intro (And.intro @Mi.e_var @Mi.e_var1) (And.intro @Mi.e_varF (And.intro @Mi.e_varF1 @Mi.e_varM))) (And.intro (And.intro @Mi.e_varM1 (And.intro @Mi.e_cp @Mi.e_cpI)) (And.intro @Mi.e_cpS (And.intro @Mi.e_cpB @Mi.e_cpN)))) (And.intro (And.intro (And.intro @Mi.e_cpT @Mi.e_cpLf) (And.intro @Mi.e_cpLr (And.intro @Mi.e_cpFi @Mi.e_cpO))) (And.intro (And.intro @Mi.cp_int (And.intro @Mi.cp_str @Mi.cp_bl)) (And.intro @Mi.cp_non (And.intro @Mi.cp_tup @Mi.cp_lf))))) (And.intro (And.intro (And.intro (And.intro @Mi.cp_lr @Mi.cp_fin) (And.intro @Mi.cp_obj (And.intro @Mi.e_frz @Mi.e_frz1))) (And.intro (And.intro @Mi.frz_int (And.intro @Mi.frz_str @Mi.frz_bl)) (And.intro @Mi.frz_non (And.intro @Mi.frz_tup @Mi.frz_lo)))) (And.intro (And.intro (And.intro @Mi.frz_lf (And.intro @Mi.frz_lr @Mi.frz_fin)) (And.intro @Mi.frz_obj (And.intro @Mi.frzL_nil @Mi.frzL_cons))) (And.intro (And.intro @Mi.e_set (And.intro @Mi.e_set1 @Mi.e_nil)) (And.intro @Mi.e_cons (And.intro @Mi.e_cons1 @Mi.e_cons2))))))) (And.intro (And.intro (And.intro (And.intro (And.intro (And.intro @Mi.e_args @Mi.e_args1) (And.intro @Mi.e_dLst (And.intro @Mi.e_dTup @Mi.e_callP))) (And.intro (And.intro @Mi.e_callP1 (And.intro @Mi.e_callP2 @Mi.e_callP3)) (And.intro @Mi.e_range (And.intro @Mi.e_range1 @Mi.e_dR1)))) (And.intro (And.intro (And.intro @Mi.e_dR2 @Mi.e_it) (And.intro @Mi.e_it1 (And.intro @Mi.e_dIt @Mi.e_dItT))) (And.intro (And.intro @Mi.e_for (And.intro @Mi.e_for1 @Mi.e_loopC)) (And.intro @Mi.e_loopS (And.intro @Mi.e_loopX @Mi.e_loopR))))) (And.intro (And.intro (And.intro (And.intro @Mi.e_loopE @Mi.e_loopN) (And.intro @Mi.e_mgName (And.intro @Mi.e_mgTup @Mi.e_mgCons))) (And.intro (And.intro @Mi.e_mgNil (And.intro @Mi.e_asg @Mi.e_asg1)) (And.intro @Mi.e_asg2 (And.intro @Mi.e_mut @Mi.e_mut1)))) (And.intro (And.intro (And.intro @Mi.e_mut2 (And.intro @Mi.e_mut3 @Mi.e_mut4)) (And.intro @Mi.e_fApp (And.intro @Mi.e_sl @Mi.e_sl1))) (And.intro (And.intro @Mi.e_sl2 (And.intro @Mi.e_sl3 @Mi.e_noP)) (And.intro @Mi.e_so (And.intro @Mi.e_so1 @Mi.e_fn)))))) (And.intro (And.intro (And.intro (And.intro (And.intro @Mi.e_fnR @Mi.e_fnN) (And.intro @Mi.e_fnE (And.intro @Mi.w_add @Mi.w_sub))) (And.intro (And.intro @Mi.w_mul (And.intro @Mi.w_mod @Mi.w_div)) (And.intro @Mi.w_shr (And.intro @Mi.w_and @Mi.w_lt)))) (And.intro (And.intro (And.intro @Mi.w_le @Mi.w_gt) (And.intro @Mi.w_ge (And.intro @Mi.w_neg @Mi.w_not))) (And.intro (And.intro @Mi.w_eq (And.intro @Mi.w_ne @Mi.w_len)) (And.intro @Mi.w_lenT (And.intro @Mi.w_int @Mi.w_abs))))) (And.intro (And.intro (And.intro (And.intro @Mi.w_min2 @Mi.w_list) (And.intro @Mi.w_tuple (And.intro @Mi.w_rev @Mi.w_cat1))) (And.intro (And.intro @Mi.w_cat2 (And.intro @Mi.w_cat3 @Mi.w_cat4)) (And.intro @Mi.w_ix (And.intro @Mi.w_ixT @Mi.w_sl)))) (And.intro (And.intro (And.intro @Mi.w_mulW (And.intro @Mi.il_consR @Mi.cpL_nil)) (And.intro @Mi.cpL_int (And.intro @Mi.il_snoc @Mi.il_rev))) (And.intro (And.intro @Mi.il_at (And.intro @Mi.il_nil @Mi.il_len)) (And.intro @Mi.il_cp (And.intro @Mi.il_frz @Mi.il_app))))))))
def evo := (And.intro (And.intro (And.intro (And.intro (And.intro (And.intro (And.intro @Mi.o_getOb @Mi.o_setOb) (And.intro @Mi.o_fld (And.intro @Mi.o_fld1 @Mi.o_fld2))) (And.intro (And.intro @Mi.o_fld3 @Mi.o_fld4) (And.intro @Mi.o_fs (And.intro @Mi.o_fs1 @Mi.o_fs2)))) (And.intro (And.intro (And.intro @Mi.o_fs3 @Mi.o_fs4) (And.intro @Mi.o_fs5 (And.intro @Mi.o_fa @Mi.o_fa1))) (And.intro (And.intro @Mi.o_fa2 (And.intro @Mi.o_fa3 @Mi.o_lf)) (And.intro @Mi.o_lf1 (And.intro @Mi.o_lf2 @Mi.o_li))))) (And.intro (And.intro (And.intro (And.intro @Mi.o_li1 @Mi.o_li2) (And.intro @Mi.o_li3 (And.intro @Mi.o_li4 @Mi.o_push))) (And.intro (And.intro @Mi.o_gl @Mi.o_gl1) (And.intro @Mi.o_gp (And.intro @Mi.o_gp1 @Mi.o_sl)))) (And.intro (And.intro (And.intro @Mi.o_sl1 @Mi.o_sl2) (And.intro @Mi.o_sp0 (And.intro @Mi.o_sp1 @Mi.o_sp2))) (And.intro (And.intro @Mi.o_ple (And.intro @Mi.o_ple1 @Mi.o_plf)) (And.intro @Mi.o_plf1 (And.intro @Mi.o_plf2 @Mi.o_ex)))))) (And.intro (And.intro (And.intro (And.intro (And.intro @Mi.o_ex1 @Mi.o_ex2) (And.intro @Mi.o_ex3 (And.intro @Mi.o_ex4 @Mi.o_ext1))) (And.intro (And.intro @Mi.o_ext2 @Mi.o_setp) (And.intro @Mi.o_setp1 (And.intro @Mi.o_setp2 @Mi.o_setp3)))) (And.intro (And.intro (And.intro @Mi.o_setp4 @Mi.o_setp5) (And.intro @Mi.o_setp6 (And.intro @Mi.o_dsetl @Mi.o_dsetl1))) (And.intro (And.intro @Mi.o_me (And.intro @Mi.o_me1 @Mi.o_me2)) (And.intro @Mi.o_cls (And.intro @Mi.o_cls1 @Mi.o_cls2))))) (And.intro (And.intro (And.intro (And.intro @Mi.o_io0 @Mi.o_io1) (And.intro @Mi.o_ag0 (And.intro @Mi.o_ag1 @Mi.o_ag2))) (And.intro (And.intro @Mi.o_ag3 (And.intro @Mi.o_ag4 @Mi.o_ae)) (And.intro @Mi.o_ae1 (And.intro @Mi.o_ta0 @Mi.o_ta1)))) (And.intro (And.intro (And.intro @Mi.o_ta2 @Mi.o_pa0) (And.intro @Mi.o_pa1 (And.intro @Mi.o_ae4 @Mi.o_ae5))) (And.intro (And.intro @Mi.o_ae6 (And.intro @Mi.o_ae7 @Mi.o_callE1)) (And.intro @Mi.o_callE2 (And.intro @Mi.o_mp @Mi.o_mp1))))))) (And.intro (And.intro (And.intro (And.intro (And.intro (And.intro @Mi.o_mp2 @Mi.o_lc) (And.intro @Mi.o_lc1 (And.intro @Mi.o_lc2 @Mi.q_exc))) (And.intro (And.intro @Mi.q_try @Mi.q_tryE) (And.intro @Mi.q_tryO (And.intro @Mi.q_try1 @Mi.q_try0)))) (And.intro (And.intro (And.intro @Mi.q_try2 @Mi.q_tas) (And.intro @Mi.q_tasE (And.intro @Mi.q_tasO @Mi.q_tas1))) (And.intro (And.intro @Mi.q_tas0 (And.intro @Mi.q_tas2 @Mi.q_kit)) (And.intro @Mi.q_dg (And.intro @Mi.q_dg1 @Mi.q_dg2))))) (And.intro (And.intro (And.intro (And.intro @Mi.q_pop @Mi.q_pop1) (And.intro @Mi.q_pop2 (And.intro @Mi.q_pop3 @Mi.q_pop3i))) (And.intro (And.intro @Mi.q_pop4 @Mi.q_pop4i) (And.intro @Mi.q_pop5 (And.intro @Mi.q_pop6 @Mi.q_pop7)))) (And.intro (And.intro (And.intro @Mi.q_lenD @Mi.q_mk) (And.intro @Mi.q_mk1 (And.intro @Mi.q_mk2 @Mi.q_mk3))) (And.intro (And.intro @Mi.q_mk4 (And.intro @Mi.q_mk5 @Mi.q_mk6)) (And.intro @Mi.q_gf (And.intro @Mi.q_gf1 @Mi.q_tc)))))) (And.intro (And.intro (And.intro (And.intro (And.intro @Mi.q_tc1 @Mi.q_tc2) (And.intro @Mi.q_tc2f (And.intro @Mi.q_tc3 @Mi.q_true))) (And.intro (And.intro @Mi.q_ta3 @Mi.q_ta4) (And.intro @Mi.q_pa2 (And.intro @Mi.q_pa3 @Mi.q_io2)))) (And.intro (And.intro (And.intro @Mi.q_io3 @Mi.q_fnR) (And.intro @Mi.q_fnN (And.intro @Mi.q_out @Mi.q_out0))) (And.intro (And.intro @Mi.q_out1 (And.intro @Mi.q_out2 @Mi.q_lob)) (And.intro @Mi.q_lob1 (And.intro @Mi.q_boxP @Mi.q_lob2))))) (And.intro (And.intro (And.intro (And.intro @Mi.q_gb @Mi.q_gb1) (And.intro @Mi.q_sb (And.intro @Mi.q_sb1 @Mi.q_box))) (And.intro (And.intro @Mi.q_boxL (And.intro @Mi.q_boxD @Mi.q_obl)) (And.intro @Mi.q_obl1 (And.intro @Mi.q_mup @Mi.q_mup1)))) (And.intro (And.intro (And.intro @Mi.q_mup2 @Mi.q_mup3) (And.intro @Mi.q_mup5 (And.intro @Mi.q_ins @Mi.q_isN))) (And.intro (And.intro @Mi.q_isN0 (And.intro @Mi.q_isNl @Mi.q_isNi)) (And.intro @Mi.q_isNs (And.intro @Mi.q_isNo @Mi.q_isNb))))))))
end Mi

/-! a comprehension over a text while an exception is handled -/
namespace Hot2
open PySem PySem.Spec PyProof.Rows L2H HotX
open L2 hiding Takes XE CX takes_of passes_call MkP PMk ps_raise mk_of ps_try_as passAt pmk_own
open L2N (Takes XE CX takes_of passes_call MkP PMk ps_raise mk_of ps_try_as passAt pmk_own)
abbrev Sg := L2.St
section
variable {prog : Program} {w : World} {A : Around} {E : Value → Shared → Prop} {s : Shared}
theorem ascii_end_hot {it x1 : Addr} {x : Str} {t : Tok} {i : Nat} {Q : Option Value → Shared → Prop} (hot : HotAt A x1 s.heap) (hne : x1 ≠ it)
    (hit : s.heap.IsStrIter it "str_ascii_iterator" x t i) (hx : x.cps[i]? = none)
    (hQ : ∀ h', (∀ b o, b ≠ it → s.heap.get? b = some o → h'.get? b = some o) → Q none { s with heap := h' }) : wpAny (model prog w) A (pyNext (.ref it)) Q E s := by
  obtain ⟨o, ho, hc, hd⟩ := id hit
  obtain ⟨hh, o1, vs1, h1, d1, c1⟩ := hot
  unfold pyNext
  refine wpAny_bind (wpAny_attempt (wpAny_callSpecial?_slot (name := Str.ofString "__next__") hit.typeIs F.slot_str_ascii_iterator_next
    (wpAny_call_entry F.slot_str_ascii_iterator_next hit.typeIs F.entry_str_ascii_iterator_next ?_ (F.args_str_ascii_iterator_next_1 _))))
  show wpAny _ _ (field (.ref it) 0 >>= _) _ _ s
  refine wpAny_bind (wpAny_field ho hd (x := .str x t) rfl ?_)
  show wpAny _ _ (field (.ref it) 1 >>= _) _ _ s
  refine wpAny_bind (wpAny_field ho hd (x := .int i 0) rfl ?_)
  simp only [Int.toNat_natCast, hx]
  refine wpAny_bind (wpAny_rule (wpAny_bind (wpAny_setField ho hd (by simp) (wpAny_bind (wpAny_letGo ?_)))))
  show wpAny _ _ (newExc (.type "StopIteration") [] >>= _) _ _ _
  refine wpAny_bind ?_
  simp only [newExc, newTuple]
  refine wpAny_bind (wpAny_newObj_type ?_ (by size_fits))
  refine wpAny_bind (m := firstArgMember _ _) (wpAny_of_eq (a := Value.none) (by first | rfl | (simp only [firstArgMember]; rfl)) ?_)
  refine wpAny_newObj_type ?_ (by size_fits)
  have h1' := (Heap.get?_update_other s.heap (Obj.mapFields (·.setIfInBounds 0 Value.none)) (Ne.symm hne)).trans h1
  refine raiseNew_hot ⟨hh, o1, vs1, Heap.get?_push_of_some _ (Heap.get?_push_of_some _ h1'), d1, c1⟩ (Nat.ne_of_lt (Heap.lt_size (Heap.get?_push_of_some _ h1'))) (Heap.get?_push_size _ rfl) rfl (by first | (simp; done) | (simp; omega) | (simp only [Array.size_append]; simp; omega)) ?_
  refine wpAny_bind (wpAny_isInstance (T := "StopIteration") (b := true) ⟨_, Heap.get?_update_self _ (Heap.get?_push_size _ rfl) rfl, rfl⟩ isSubtype_stop ?_)
  refine wpAny_pure (hQ _ fun b ob hb e => ?_)
  have e' := (Heap.get?_update_other s.heap (Obj.mapFields (·.setIfInBounds 0 Value.none)) (Ne.symm hb)).trans e
  rw [Heap.get?_update_other _ _ (Nat.ne_of_gt (Heap.lt_size (Heap.get?_push_of_some _ e')))]
  exact Heap.get?_push_of_some _ (Heap.get?_push_of_some _ e')
theorem wide_end_hot {it x1 : Addr} {x : Str} {t : Tok} {i : Nat} {Q : Option Value → Shared → Prop} (hot : HotAt A x1 s.heap) (hne : x1 ≠ it)
    (hit : s.heap.IsStrIter it "str_iterator" x t i) (hx : x.cps[i]? = none)
    (hQ : ∀ h', (∀ b o, b ≠ it → s.heap.get? b = some o → h'.get? b = some o) → Q none { s with heap := h' }) : wpAny (model prog w) A (pyNext (.ref it)) Q E s := by
  obtain ⟨o, ho, hc, hd⟩ := id hit
  obtain ⟨hh, o1, vs1, h1, d1, c1⟩ := hot
  unfold pyNext
  refine wpAny_bind (wpAny_attempt (wpAny_callSpecial?_slot (name := Str.ofString "__next__") hit.typeIs F.slot_str_iterator_next
    (wpAny_call_entry F.slot_str_iterator_next hit.typeIs F.entry_str_iterator_next ?_ (F.args_str_iterator_next_1 _))))
  show wpAny _ _ (field (.ref it) 0 >>= _) _ _ s
  refine wpAny_bind (wpAny_field ho hd (x := .str x t) rfl ?_)
  show wpAny _ _ (field (.ref it) 1 >>= _) _ _ s
  refine wpAny_bind (wpAny_field ho hd (x := .int i 0) rfl ?_)
  simp only [Int.toNat_natCast, hx]
  refine wpAny_bind (wpAny_rule (wpAny_bind (wpAny_setField ho hd (by simp) (wpAny_bind (wpAny_letGo ?_)))))
  show wpAny _ _ (newExc (.type "StopIteration") [] >>= _) _ _ _
  refine wpAny_bind ?_
  simp only [newExc, newTuple]
  refine wpAny_bind (wpAny_newObj_type ?_ (by size_fits))
  refine wpAny_bind (m := firstArgMember _ _) (wpAny_of_eq (a := Value.none) (by first | rfl | (simp only [firstArgMember]; rfl)) ?_)
  refine wpAny_newObj_type ?_ (by size_fits)
  have h1' := (Heap.get?_update_other s.heap (Obj.mapFields (·.setIfInBounds 0 Value.none)) (Ne.symm hne)).trans h1
  refine raiseNew_hot ⟨hh, o1, vs1, Heap.get?_push_of_some _ (Heap.get?_push_of_some _ h1'), d1, c1⟩ (Nat.ne_of_lt (Heap.lt_size (Heap.get?_push_of_some _ h1'))) (Heap.get?_push_size _ rfl) rfl (by first | (simp; done) | (simp; omega) | (simp only [Array.size_append]; simp; omega)) ?_
  refine wpAny_bind (wpAny_isInstance (T := "StopIteration") (b := true) ⟨_, Heap.get?_update_self _ (Heap.get?_push_size _ rfl) rfl, rfl⟩ isSubtype_stop ?_)
  refine wpAny_pure (hQ _ fun b ob hb e => ?_)
  have e' := (Heap.get?_update_other s.heap (Obj.mapFields (·.setIfInBounds 0 Value.none)) (Ne.symm hb)).trans e
  rw [Heap.get?_update_other _ _ (Nat.ne_of_gt (Heap.lt_size (Heap.get?_push_of_some _ e')))]
  exact Heap.get?_push_of_some _ (Heap.get?_push_of_some _ e')
/-- the block of a comprehension; the exception that is handled stays pinned -/
abbrev blkH (X : Cx) (s : Shared) (H : Hp) (scope : Scope) (cenv : Env) (fp : List Addr) : Cx := { X.blk s H scope cenv fp with pn := X.pn }
theorem to_hot {X : Cx} {s0 s : Shared} {H0 H : Hp} {scope : Scope} {cenv : Env} {fp : List Addr} {pins : List (Addr × Obj)} {σ : Sg} (I : Inv (X.blk s0 H0 scope cenv fp) (X.pn ++ pins) σ H s) : Inv (blkH X s0 H0 scope cenv fp) pins σ H s := by
  obtain ⟨a1, a2, a3, a4, a5, a6, a7, a8, a9, a10, a11, a12, a13, a14, a15, a16, a17, a18⟩ := I.ok
  exact ⟨⟨a1, a2, a3, a4, a5, a6, a7, a8, a9, a10, a11, a12, a13, a14, a15, a16, a17, a18⟩, I.os, I.bare, I.base, I.loc, I.cell, I.free, I.freeC, fun p hp => I.pin p hp, I.hok, I.len⟩
theorem turn_strH {P : Program} {w : World} {K : PySem.W.Frag} {tg : Expr} (it : Addr) (x : Str) (t : Tok) (ty : String) (hty : ty = "str_ascii_iterator" ∨ ty = "str_iterator") :
    TurnH P w K tg (Its x) [it] it (fun i h => h.IsStrIter it ty x t i) where
  mem := by simp
  obj := fun i h st b hb => by
    have e : b = it := by simpa using hb
    subst e
    obtain ⟨o, e, c, d⟩ := st
    exact ⟨o, e, fun v z => by rw [d] at z; cases z⟩
  keep := fun i h h' st k => let ⟨o, ho, r⟩ := st; ⟨o, k it (by simp) o ho, r⟩
  item := by
    intro X hP hw hK hc i pins s σ H E I hf st hg
    subst hP hw hK
    obtain ⟨f0, f1, f2, f3, f4, f5⟩ := hf it (by simp)
    have hno : ["enumerate", "zip", "dict_itemiterator", "dict_reverseitemiterator", "odict_iterator", "itertools.zip_longest", "itertools.pairwise"].contains ty = false := by
      rcases hty with e | e
      · rw [e]; decide
      · rw [e]; decide
    have hlt : i < x.cps.size := hg
    have fin : ∀ h', h'.IsStrIter it ty x t (i + 1) → Heap.SameBut it s.heap h' → ∃ u, (some (Value.str ⟨#[x.cps[i]]⟩ s.toks)) = some u ∧
        wpAny (model X.prog X.w) X.A (letOwnedTupleGo tg (.ref it) u) (fun _ s2 => ∃ x' H', Inv X pins σ H' s2 ∧ RelV x' u ∧ (Its x).yld i H x' H' ∧ s2.heap.IsStrIter it ty x t (i + 1) ∧ ∀ b ∈ [it], H' b = none) E { s with heap := h', toks := s.toks + 1 } := fun h' st' sb => by
      have I1 : Inv X pins σ H { s with heap := h', toks := s.toks + 1 } := I.turned (fun b o hb e => (sb.2 b hb).trans e) f0 f1 f3 f4 f5
      obtain ⟨oi, e, cc, dd⟩ := id st'
      exact ⟨_, rfl, go_of (s := { s with heap := h', toks := s.toks + 1 }) e cc dd hno ⟨.str ⟨#[x.cps[i]]⟩, H, I1, ⟨s.toks, rfl⟩, ⟨rfl, x.cps[i], by simp [hlt], rfl⟩, st', fun b hb => (hf b hb).1⟩⟩
    rcases hty with e | e
    · subst e
      exact wpAny_pyNext_ascii_item st (c := x.cps[i]) (by simp [hlt]) fun h' st' sb => fin h' st' sb
    · subst e
      exact wpAny_pyNext_wide_item st (c := x.cps[i]) (by simp [hlt]) fun h' st' sb => fin h' st' sb
  done := by
    intro X hP hw hK hc i pins s σ H E I hf st hg
    subst hP hw hK
    obtain ⟨f0, f1, f2, f3, f4, f5⟩ := hf it (by simp)
    obtain ⟨p, ⟨hh, v1, e1, c1⟩, hp⟩ := hc
    have hx : x.cps[i]? = none := Array.getElem?_eq_none hg
    have hot : HotAt X.A p.1 s.heap := ⟨hh, p.2, v1, (I.pin p (List.mem_append_left _ hp)).1, e1, c1⟩
    have ne : p.1 ≠ it := f5 p (List.mem_append_left _ hp)
    rcases hty with e | e
    · rw [e] at st
      exact ascii_end_hot hot ne st hx fun h' eb => ⟨rfl, I.turned (t' := s.toks) (fun b o hb e => eb b o hb e) f0 f1 f3 f4 f5⟩
    · rw [e] at st
      exact wide_end_hot hot ne st hx fun h' eb => ⟨rfl, I.turned (t' := s.toks) (fun b o hb e => eb b o hb e) f0 f1 f3 f4 f5⟩
  self := fun A i s Q E st h => by
    rcases hty with e | e
    · rw [e] at st; exact wpAny_pyIter_striter_ascii st h
    · rw [e] at st; exact wpAny_pyIter_striter_wide st h
theorem pi_oneH {X : Cx} {tg : Expr} {pins : List (Addr × Obj)} {σ : Sg} {H : Hp} {s : Shared} {R : It → Hp → Prop} {J : It} {tn : Nat → Heap → Prop} {tk : Nat} (I : Inv X pins σ H s) (o : Obj)
    (T : TurnH X.prog X.w X.K tg J [s.heap.objs.size] s.heap.objs.size tn) (st : tn 0 (s.heap.push o)) (q : R J H) : PIEH X pins σ tg R (.ref s.heap.objs.size) { s with heap := s.heap.push o, toks := tk } := by
  refine ⟨s.heap.objs.size, [s.heap.objs.size], tn, J, H, rfl, I.kept fun b ob e => Heap.get?_push_of_some _ e, T, st, fun b hb => ?_, q⟩
  have e : b = s.heap.objs.size := by simpa using hb
  subst e
  exact I.fpOk (Nat.le_refl _) (I.hok.fresh (Nat.le_refl _))
theorem pi_strH {X : Cx} {tg e : Expr} {te : TE} (he : PE X e te) : PIH X tg e (iStr te) := by
  refine ⟨fun pins s σ H R I h => ?_⟩
  refine thn (he.run pins s σ H _ I h) fun v s1 ⟨y, H1, I1, r1, x, ex, q⟩ => ?_
  subst ex
  obtain ⟨t, rfl⟩ := r1
  cases ha : x.cps.all (· < 128)
  · exact wpAny_pyIter_wide ha (pi_oneH (tk := s1.toks) I1 _ (turn_strH _ x t "str_iterator" (.inr rfl)) ⟨_, Heap.get?_push_size _ rfl, rfl, rfl⟩ q)
  · exact wpAny_pyIter_ascii ha (pi_oneH (tk := s1.toks) I1 _ (turn_strH _ x t "str_ascii_iterator" (.inl rfl)) ⟨_, Heap.get?_push_size _ rfl, rfl, rfl⟩ q)
theorem lcH_core {pins : List (Addr × Obj)} {X : Cx} {s : Shared} {σ : Sg} {H : Hp} {Q : VK} {elt tg iter : Expr} {ifs : List Expr} {scope : Scope} {own : List (Str × Nat)} {pos pos' : Pos} {wi : TI} {g : TG} {tt : TT} {te : TE} {use : Option (Value → Sem Unit)} {Qf : Value → Shared → Prop}
    (hc : HotC X) (hN : X.N.Nodup) (I : Inv X pins σ H s) (hi : PIH X tg iter wi) (ok : BlkOk X.N X.env.scope scope own)
    (hg : ∀ (s : Shared) (H : Hp) (C : Addr) (cl : List (Str × Addr)) (fp : List Addr), PG (blkH X s H scope (compEnvC scope cl C X.env) fp) tg g) (ht : ∀ (s : Shared) (H : Hp) (C : Addr) (cl : List (Str × Addr)) (fp : List Addr), PTs (blkH X s H scope (compEnvC scope cl C X.env) fp) ifs tt)
    (he : ∀ (s : Shared) (H : Hp) (C : Addr) (cl : List (Str × Addr)) (fp : List Addr), PE (blkH X s H scope (compEnvC scope cl C X.env) fp) elt te) (hs : ∀ x, foldedSetIterable iter X.env x = pure x)
    (h : tLc wi g tt te (own.map (·.2)) σ H Q)
    (hRR : ∀ D C s' m H', Inv X pins σ H' s' → Q (.ref D) H' → s'.heap.Ns C m → FpOk X pins H' C → compPost (model X.prog X.w) X.A X.xe use Qf (.ref D) C (.ok .next) s') :
    wpAny (model X.prog X.w) X.A (comprehension (.ListComp elt [⟨tg, iter, ifs, 0⟩] scope pos) scope X.env pos' (newList []) false (eval iter X.env) use) Qf X.xe s := by
  have hfree : ∀ y ∈ scope.names, y.2 = .free → ∃ c, X.env.cells.lookup y.1 = some c := fun y hy e => by
    rcases ok.free y hy e with k | k
    · exact I.ok.has _ (.inl k)
    · exact I.ok.has _ (.inr k)
  refine wpAny_comprehension_free (use := use) rfl hs (closure_ok hfree) ok.kind (fun y hy e => by rw [ok.uniq y hy, e])
    (thn (hi.run pins s σ H _ I h) fun xv s1 hx => thn hx fun itv s2 h2 => ?_)
  obtain ⟨it, fp, tn, J, H2, e, I2, T, st2, f2, q⟩ := h2
  subst e
  refine wpAny_newObj_type (newEnv_comp ?_) (by show 0 ≤ sizeLine; decide)
  generalize hD : s2.heap.objs.size = D
  have hDn : H2 D = none := I2.hok.fresh (Nat.le_of_eq hD)
  obtain ⟨W, ⟨m0, w0⟩, turn⟩ := q D hDn
  -- the new list
  generalize hs3 : ({ s2 with heap := s2.heap.push { cls := .type "list", data := .seq ([] : List Value).toArray } } : Shared) = s3
  have I3 : Inv X pins σ (upd H2 D (.lst [])) s3 := by
    rw [← hs3]
    refine I2.laid (t' := s2.toks) (fun b o e => Heap.get?_push_of_some _ e) (Nat.le_of_eq hD) ⟨Nat.zero_le _, [], 0, .nil, ?_⟩
    rw [← hD]
    exact Heap.get?_push_size _ rfl
  have h3 : s3.heap = s2.heap.push { cls := .type "list", data := .seq ([] : List Value).toArray } := by rw [← hs3]
  have sz : ∀ b ∈ fp, b < s2.heap.objs.size := fun b hb => by
    obtain ⟨o, e, _⟩ := T.obj _ _ st2 b hb
    exact Heap.lt_size e
  have f3 : ∀ b ∈ fp, FpOk X pins (upd H2 D (.lst [])) b ∧ b < s3.heap.objs.size := fun b hb => by
    have hlt := sz b hb
    refine ⟨⟨?_, (f2 b hb).2⟩, by rw [h3, Heap.size_push]; exact Nat.lt_succ_of_lt hlt⟩
    rw [upd_ne (by rw [← hD]; exact Nat.ne_of_lt hlt)]
    exact (f2 b hb).1
  have st3 : tn 0 s3.heap := T.keep _ _ _ st2 fun b _ o e => by rw [h3]; exact Heap.get?_push_of_some _ e
  have I4p := (block_start I3 ok hN f3).pins_of (pins' := X.pn ++ []) fun p hp => by
    have hp : p ∈ X.pn := by simpa using hp
    obtain ⟨p1, p2, p3, p4, p5⟩ := I3.pin p (List.mem_append_left _ hp)
    refine ⟨pushCells_keeps _ _ _ _ (Heap.get?_push_of_some _ p1), p2, fun z => ?_, fun z => ?_, p5⟩
    · have z : p.1 = s3.heap.objs.size := z
      exact absurd (Heap.lt_size p1) (by rw [z]; exact Nat.lt_irrefl _)
    · rcases List.mem_cons.mp (I3.stkSub p.1 z) with e | e
      · exact p3 e
      · exact p4 e
  have I4 := to_hot (pins := []) I4p
  have pg := hg s3 (upd H2 D (.lst [])) s3.heap.objs.size (cellsFrom (s3.heap.objs.size + 1) scope.names (cloFrom X.env.cells scope.names [])) fp
  have pt := ht s3 (upd H2 D (.lst [])) s3.heap.objs.size (cellsFrom (s3.heap.objs.size + 1) scope.names (cloFrom X.env.cells scope.names [])) fp
  have pe := he s3 (upd H2 D (.lst [])) s3.heap.objs.size (cellsFrom (s3.heap.objs.size + 1) scope.names (cloFrom X.env.cells scope.names [])) fp
  show codeAny _ _ (.compStart (.ListComp elt [⟨tg, iter, ifs, 0⟩] scope pos) 0 (.ref it) (.ref D) (compEnvC scope (cellsFrom (s3.heap.objs.size + 1) scope.names (cloFrom X.env.cells scope.names [])) s3.heap.objs.size X.env)) (compPost (model X.prog X.w) X.A X.xe use Qf (.ref D) s3.heap.objs.size) { s3 with heap := pushCells (s3.heap.push { cls := .type "dict", data := .dict #[] }) scope.names }
  have nfp : ∀ b ∈ fp, (upd H2 D (.lst [])) b = none := fun b hb => (f3 b hb).1.1
  generalize hce : compEnvC scope (cellsFrom (s3.heap.objs.size + 1) scope.names (cloFrom X.env.cells scope.names [])) s3.heap.objs.size X.env = ce at I4 pg pt pe ⊢
  have cL : ce.locals = s3.heap.objs.size := by subst hce; rfl
  generalize hH3 : upd H2 D (.lst []) = H3 at I3 I4 pg pt pe w0 nfp f3
  generalize hs4 : ({ s3 with heap := pushCells (s3.heap.push { cls := .type "dict", data := .dict #[] }) scope.names } : Shared) = s4 at I4 ⊢
  have st4 : tn 0 s4.heap := T.keep _ _ _ st3 fun b _ o e => by rw [← hs4]; exact pushCells_keeps _ _ _ _ (Heap.get?_push_of_some _ e)
  have stat : ∀ {σ' : Sg} {H' : Hp} {s' : Shared}, Inv (blkH X s3 H3 scope ce fp) [] σ' H' s' → (∀ b ∈ fp, H' b = none) → ∀ b ∈ fp, FpOk (blkH X s3 H3 scope ce fp) [] H' b := fun {σ' H' s'} I' hn b hb =>
    ⟨hn b hb, (I'.ok.exf b hb).1, I'.ok.exfs b hb, .inl hb, fun x c e => (I'.ok.exf b hb).2 x c e, fun p hp => (f2 b hb).2.2.2.2.2 p (List.mem_append_left _ (show p ∈ X.pn by simpa using hp))⟩
  have hcb : HotC (blkH X s3 H3 scope ce fp) := hc
  have loop : codeAny (model X.prog X.w) X.A (.compLoop (.ListComp elt [⟨tg, iter, ifs, 0⟩] scope pos) 0 (.ref it) (.ref D) ce) (compPost (model X.prog X.w) X.A X.xe use Qf (.ref D) s3.heap.objs.size) s4 := by
    refine compLoop_any (fun n s' => ∃ i H', Inv (blkH X s3 H3 scope ce fp) [] (wipe σ (own.map (·.2))) H' s' ∧ tn i s'.heap ∧ (∀ b ∈ fp, H' b = none) ∧ W i n H') ?_ m0 ⟨0, H3, I4, st4, nfp, w0⟩
    rintro n s5 ⟨i, H5, I5, st5, n5, w5⟩
    rcases turn i n H5 w5 with ⟨stop, qq⟩ | ⟨go, Nx, hNx, step⟩
    · have td := T.done (blkH X s3 H3 scope ce fp) rfl rfl rfl hcb i [] s5 _ H5 (fun _ _ => False) I5 (stat I5 n5) st5 stop
      refine thnF td fun r s6 ⟨hr, I6⟩ => ?_
      subst hr
      -- back in the def's context
      have I7 : Inv X pins σ H5 s6 := I3.call' (ch := fp) I6.os I6.base I6.hok I6.bare fun b hb => ⟨(f3 b hb).1.2.2.2.1, (f3 b hb).1.2.1, (f3 b hb).1.2.2.2.2.1, (f3 b hb).1.2.2.2.2.2⟩
      have nC : H5 s3.heap.objs.size = none := by
        have z : H5 ce.locals = none := I6.free
        rw [cL] at z
        exact z
      obtain ⟨m, hn, _⟩ := I6.loc
      have hn : s6.heap.Ns ce.locals m := hn
      rw [cL] at hn
      exact hRR D s3.heap.objs.size s6 m H5 I7 qq hn (I3.fpOk (Nat.le_refl _) nC)
    · have ti := T.item (blkH X s3 H3 scope ce fp) rfl rfl rfl hcb i [] s5 _ H5 (fun _ _ => False) I5 (stat I5 n5) st5 go
      refine thnF ti fun r s6 ⟨u, hr, h6⟩ => ?_
      subst hr
      refine thnF h6 fun _ s7 ⟨x, H7, I7, r7, y7, st7, n7⟩ => ?_
      have I7' := I7.pinned (stat I7 n7) (T.obj _ _ st7)
      refine thnF (pg.run _ s7 _ H7 x u _ I7' r7 (step x H7 y7)) fun _ s8 ⟨σ8, H8, I8, hw8, q8⟩ => ?_
      refine thnF (pt.run _ s8 σ8 H8 _ I8 q8) fun b s9 ⟨H9, I9, q9⟩ => ?_
      -- the turn's end
      have fin : ∀ {s' : Shared} {H' : Hp}, Inv (blkH X s3 H3 scope ce fp) ([] ++ pinsAt fp s7.heap) σ8 H' s' → Nx H' → ∃ m, m < n ∧ ∃ i H', Inv (blkH X s3 H3 scope ce fp) [] (wipe σ (own.map (·.2))) H' s' ∧ tn i s'.heap ∧ (∀ b ∈ fp, H' b = none) ∧ W i m H' := fun {s' H'} I' nx => by
        obtain ⟨m', hm, w'⟩ := hNx H' nx
        have pin' : ∀ b ∈ fp, ∀ o, s7.heap.get? b = some o → s'.heap.get? b = some o ∧ H' b = none := fun b hb o e =>
          let z := I'.pin (b, o) (List.mem_append_right _ (List.mem_append_right _ (mem_pinsAt hb e)))
          ⟨z.1, z.2.1⟩
        have hl : (wipe σ (own.map (·.2))).length = σ8.length := by rw [← hw8, wipe_length]
        refine ⟨m', hm, i + 1, H', (I'.unpinned (pins := [])).weak hl (fun j v e => ?_), T.keep _ _ _ st7 fun b hb o e => (pin' b hb o e).1, fun b hb => ?_, w'⟩
        · rw [← hw8] at e
          exact (wipe_some e).1
        · obtain ⟨o, e, _⟩ := T.obj _ _ st7 b hb
          exact (pin' b hb o e).2
      cases b with
      | false =>
        simp only [Bool.false_eq_true, if_false] at q9 ⊢
        exact fin I9 q9
      | true =>
        simp only [if_true] at q9 ⊢
        refine thnF (pe.run _ s9 σ8 H9 _ I9 q9) fun z s10 ⟨yv, H10, I10, r10, acc, hD10, hz10, nx⟩ => ?_
        exact app_ok (X := blkH X s3 H3 scope ce fp) I10 hD10 hz10 r10 fun s11 I11 => fin I11 nx
  exact codeAny_compStart_list loop (T.self X.A 0 _ _ _ st4 loop)
theorem pe_lcH {X : Cx} {elt tg iter : Expr} {ifs : List Expr} {scope : Scope} {own : List (Str × Nat)} {pos : Pos} {wi : TI} {g : TG} {tt : TT} {te : TE} (hc : HotC X) (hN : X.N.Nodup) (hi : PIH X tg iter wi) (ok : BlkOk X.N X.env.scope scope own)
    (hg : ∀ (s : Shared) (H : Hp) (C : Addr) (cl : List (Str × Addr)) (fp : List Addr), PG (blkH X s H scope (compEnvC scope cl C X.env) fp) tg g) (ht : ∀ (s : Shared) (H : Hp) (C : Addr) (cl : List (Str × Addr)) (fp : List Addr), PTs (blkH X s H scope (compEnvC scope cl C X.env) fp) ifs tt)
    (he : ∀ (s : Shared) (H : Hp) (C : Addr) (cl : List (Str × Addr)) (fp : List Addr), PE (blkH X s H scope (compEnvC scope cl C X.env) fp) elt te) (hs : ∀ x, foldedSetIterable iter X.env x = pure x := by intro _; rfl) :
    PE X (.ListComp elt [⟨tg, iter, ifs, 0⟩] scope pos) (tLc wi g tt te (own.map (·.2))) := by
  refine ⟨fun pins s σ H Q I h => ?_⟩
  rw [eval_ListComp]
  refine lcH_core hc hN I hi ok hg ht he hs h fun D C s' m H' I' q hn f => ⟨m, hn, fun h'' sb => ?_⟩
  obtain ⟨f0, f1, f2, f3, f4, f5⟩ := f
  exact ⟨.ref D, H', I'.turned (t' := s'.toks) (fun b o hb e => (sb.2 b hb).trans e) f0 f1 f3 f4 f5, rfl, q⟩
end
end Hot2

namespace Mi
open PySem PySem.Spec PyProof.Rows Hk
open L2 hiding Takes XE CX takes_of passes_call MkP PMk ps_raise mk_of ps_try_as passAt pmk_own
open L2N (Takes XE CX takes_of passes_call MkP PMk ps_raise mk_of ps_try_as passAt pmk_own)
section
variable {X : Cx} {g : Gj} {W : WX}
/-- a dict display of one text and one int -/
theorem sf_dnewC {k : Str} {i : Int} {a b : Nat} {p1 p2 pos : Pos} : SE X g W .F true (.Dict [some (.Constant (.str k) a p1)] [.Constant (.int i) b p2] pos) (mC (.dic true [.inr k] [.int i])) :=
  PE.imp (pe_disp (pps_cons pe_str pe_int pps_nil) rfl rfl (by simp) (by show 1 ≤ 15; decide)) fun σ H Q ⟨n, ct, s, R, Mr, pr, q⟩ p hp => by
    have e : ∀ o : HO, upd (upd H p (.dK [])) p o = upd H p o := fun o => by
      funext b
      unfold upd
      split <;> rfl
    refine ⟨upd_same, [(.inr k, .int i)], rfl, by show 1 ≤ 15; decide, ?_⟩
    rw [e]
    exact q n R _ (En.le.refl n) (fun _ => ⟨rfl, rfl, rfl⟩) pr.2.1 _ ⟨_, ⟨p, [.int i], 0, rfl, rfl, ⟨.int i, [], 0, 0, rfl, rfl, ⟨rfl, rfl⟩, ⟨rfl, rfl⟩⟩, rfl⟩, by
      have := pr.2.2.add (p := p) (o := .dK [(.inr k, .int i)]) hp
      exact this.cast (show _ = Rs.one p (.dK (List.zip [.inr k] [.int i])) + 0 + (R + Mr) by rw [Rs.add_zero]; rfl)⟩
end
end Mi


namespace T60
open PySem PySem.Spec PyProof.Rows L2 Hk Mi
def sub_HushError : Str → Option Bool := fun y => List.lookup y [("HushError", true), ("Malformed", true)]
def kit_Malformed : Str → Option Bool := fun y => List.lookup y [("HushError", false), ("Malformed", true)]
def m__law_cell : M Fl :=
  (mSeq (mIf (mB (mBin dLt true (mVar 1) (mUn dLen (mVar 0))))
  (mRet (mUn dInt (mBin dIx true (mVar 0) (mVar 1))))
  (mFl .nx))
  (mRet (mC (.int 0))))
def F__law_cell : Fm := fnM 2 2 [] m__law_cell
def m__law_row : M Fl :=
  (mSeq (mSet 2 (mArgs dLst mNil))
  (mSeq (mSet 3 (mFrz (mUn dAbs (mVar 0))))
  (mSeq (mIf (mB (mBin dGe true (mVar 3) (mBin dPow true (mC (.int 10)) (mC (.int 18)))))
  (mSeq (mFor (mRange dR1 (mCons (mCp (mVar 1)) mNil)) (mgName 4)
  (mSeq (mDrop (mMut 2 fAppend (mCons (mFrz (mBin dAnd true (mVar 3) (mC (.int 255)))) mNil)))
  (mSet 3 (mFrz (mBin dShr true (mVar 3) (mC (.int 8)))))))
  (mRet (mVarM 2)))
  (mFl .nx))
  (mSeq (mSet 5 (mFrz (mBin dAdd true (mBin dMod true (mUn dInt (mVar 3)) (mC (.int 2147483629))) (mC (.int 1)))))
  (mSeq (mFor (mRange dR1 (mCons (mCp (mVar 1)) mNil)) (mgName 4)
  (mSeq (mSet 5 (mFrz (mBin dMod true (mUn dInt (mBin dMul true (mVar 5) (mC (.int 48271)))) (mC (.int 2147483647)))))
  (mDrop (mMut 2 fAppend (mCons (mFrz (mBin dAnd true (mBin dAdd true (mBin dDiv true (mVar 5) (mC (.int 7))) (mVar 5)) (mC (.int 255)))) mNil)))))
  (mRet (mVarM 2)))))))
def F__law_row : Fm := fnM 6 2 [] m__law_row
def m__law_signs : M Fl :=
  (mRet (mC (.str "abcdefghijklmnopqrstuvwxyz0123456789-")))
def F__law_signs : Fm := fnM 0 0 [] m__law_signs
def m__law_char : M Fl :=
  (mSeq (mSet 1 (mC (.str " !\"#$&'()*+,./:;<=>?@ABCDEFGHIJKLMNOPQRSTUVWXYZ[\\]^_`{|}~\n")))
  (mSeq (mSet 1 (mFrz (mBin dCatS true (mVar 1) (mCallP F__law_signs mNil))))
  (mRet (mFrz (mBin dIxS true (mVar 1) (mBin dMod true (mUn dInt (mVar 0)) (mUn dLen (mVar 1))))))))
def F__law_char : Fm := fnM 2 1 [] m__law_char
def m__law_text : M Fl :=
  (mSeq (mSet 1 (mFrz (mUn dAbs (mCallP F__law_cell (mCons (mCp (mVar 0)) (mCons (mC (.int 0)) mNil))))))
  (mSeq (mSet 2 (mFrz (mCallP F__law_row (mCons (mFrz (mCallP F__law_cell (mCons (mCp (mVar 0)) (mCons (mC (.int 1)) mNil)))) (mCons (mFrz (mBin dMod true (mUn dInt (mVar 1)) (mC (.int 35)))) mNil)))))
  (mSeq (mIf (mB (mBin dEq true (mBin dAnd true (mUn dInt (mBin dDiv true (mVar 1) (mC (.int 35)))) (mC (.int 1))) (mC (.int 0))))
  (mRet (mUn (dJoin "") (mLc (mIt dIt (mCp (mVar 2))) [5] (mgName 5) mTrue (mFrz (mCallP F__law_char (mCons (mCp (mVar 5)) mNil))))))
  (mFl .nx))
  (mSeq (mSet 3 (mFrz (mUn (dJoin "") (mLc (mIt dIt (mCp (mVar 2))) [5] (mgName 5) mTrue (mFrz (mBin dIxS true (mCallP F__law_signs mNil) (mBin dMod true (mUn dInt (mVar 5)) (mC (.int 37)))))))))
  (mSeq (mIf (mAndB (mB (mBin dEq true (mBin dAnd true (mUn dInt (mBin dDiv true (mVar 1) (mC (.int 70)))) (mC (.int 1))) (mC (.int 1)))) (mB (mBin dGt true (mUn dLen (mVar 3)) (mC (.int 0)))))
  (mSeq (mSet 4 (mFrz (mBin dMod true (mUn dInt (mBin dDiv true (mVar 1) (mC (.int 140)))) (mUn dLen (mVar 3)))))
  (mSet 3 (mFrz (mBin dCatS true (mBin dCatS true (mSl dSlS true (mVar 3) mNoP (mSoP (mVar 4))) (mCallP F__law_char (mCons (mFrz (mUn dAbs (mCallP F__law_cell (mCons (mCp (mVar 0)) (mCons (mC (.int 2)) mNil))))) mNil))) (mSl dSlS true (mVar 3) (mSoP (mBin dAdd true (mVar 4) (mC (.int 1)))) mNoP)))))
  (mFl .nx))
  (mRet (mCp (mVar 3))))))))
def F__law_text : Fm := fnM 6 1 [] m__law_text
def m__law_says : M Fl :=
  (mSeq (mIf (mB (mVar 1))
  (mRet (mBin (dIsB false) true (mVar 0) (mC (.bl true))))
  (mFl .nx))
  (mRet (mBin (dIsB false) true (mVar 0) (mC (.bl false)))))
def F__law_says : Fm := fnM 2 2 [] m__law_says
def m__law_is_right_name : M Fl :=
  (mSeq (mIf (mOrB (mB (mBin dLt true (mUn dLen (mVar 0)) (mC (.int 1)))) (mB (mBin dGt true (mUn dLen (mVar 0)) (mC (.int 32)))))
  (mRet (mC (.bl false)))
  (mFl .nx))
  (mRet (mBin dEq true (mUn dLen (mLc (mIt dItS (mCp (mVar 0))) [1] (mgName 1) (mB (mBin (dInT true) true (mVar 1) (mCallP F__law_signs mNil))) (mCp (mVar 1)))) (mC (.int 0)))))
def F__law_is_right_name : Fm := fnM 2 1 [] m__law_is_right_name
def m_is_name : M Fl :=
  (mSeq (mIf (mNotB (mB (mUn (dIsi "str") (mVar 0))))
  (mRet (mC (.bl false)))
  (mFl .nx))
  (mSeq (mIf (mOrB (mB (mBin dLt true (mUn dLen (mVar 0)) (mC (.int 1)))) (mB (mBin dGt true (mUn dLen (mVar 0)) (mC (.int 32)))))
  (mRet (mC (.bl false)))
  (mFl .nx))
  (mSeq (mFor (mIt dItS (mCp (mVar 0))) (mgName 1)
  (mIf (mB (mBin (dInT true) true (mVar 1) (mC (.str "abcdefghijklmnopqrstuvwxyz0123456789-"))))
  (mRet (mC (.bl false)))
  (mFl .nx)))
  (mRet (mC (.bl true))))))
def F_is_name : Fm := fnM 2 1 [] m_is_name
def m_name_bytes : M Fl :=
  (mSeq (mIf (mNotB (mB (mCallP F_is_name (mCons (mCp (mVar 0)) mNil))))
  (mEr "Malformed")
  (mFl .nx))
  (mRet (mLc (mIt dItS (mCp (mVar 0))) [1] (mgName 1) mTrue (mFrz (mUn dOrd (mVar 1))))))
def F_name_bytes : Fm := fnM 2 1 [] m_name_bytes
def m__law_is_integer : M Fl :=
  (mRet (mAndV (mUn (dIsi "int") (mVar 0)) (mUn dNot (mUn (dIsi "bool") (mVar 0)))))
def F__law_is_integer : Fm := fnM 1 1 [] m__law_is_integer
def m__law_is_row : M Fl :=
  (mSeq (mIf (mOrB (mNotB (mB (mUn (dIsi "list") (mVar 0)))) (mB (mBin dNe true (mUn dLen (mVar 0)) (mVar 1))))
  (mRet (mC (.bl false)))
  (mFl .nx))
  (mSeq (mFor (mIt dIt (mCp (mVar 0))) (mgName 2)
  (mIf (mOrB (mNotB (mB (mCallP F__law_is_integer (mCons (mCp (mVar 2)) mNil)))) (mOrB (mB (mBin dLt true (mVar 2) (mC (.int 0)))) (mB (mBin dGt true (mVar 2) (mC (.int 255))))))
  (mRet (mC (.bl false)))
  (mFl .nx)))
  (mRet (mC (.bl true)))))
def F__law_is_row : Fm := fnM 3 2 [] m__law_is_row
def m_bytes_name : M Fl :=
  (mSeq (mSet 1 (mArgs dLst mNil))
  (mSeq (mFor (mIt dIt (mCp (mVar 0))) (mgName 2)
  (mFor (mIt dItS (mC (.str "abcdefghijklmnopqrstuvwxyz0123456789-"))) (mgName 3)
  (mIf (mB (mBin dEq true (mUn dOrd (mVar 3)) (mVar 2)))
  (mDrop (mMut 1 fAppend (mCons (mCp (mVar 3)) mNil)))
  (mFl .nx))))
  (mSeq (mSet 4 (mFrz (mUn (dJoin "") (mVar 1))))
  (mSeq (mIf (mOrB (mB (mBin dNe true (mUn dLen (mVar 4)) (mUn dLen (mVar 0)))) (mNotB (mB (mCallP F_is_name (mCons (mCp (mVar 4)) mNil)))))
  (mEr "Malformed")
  (mFl .nx))
  (mRet (mCp (mVar 4)))))))
def F_bytes_name : Fm := fnM 5 1 [] m_bytes_name
def m__law_bytes : M Fl :=
  (mSeq (mTryAs 2 sub_HushError
  (mSet 1 (mFrz (mCallP F_name_bytes (mCons (mCp (mVar 0)) mNil))))
  (fun e => (mRet (mAndV (mUn dNot (mCallP F__law_is_right_name (mCons (mCp (mVar 0)) mNil))) (mKit kit_Malformed e)))))
  (mSeq (mIf (mOrB (mNotB (mB (mCallP F__law_is_right_name (mCons (mCp (mVar 0)) mNil)))) (mNotB (mB (mCallP F__law_is_row (mCons (mCp (mVar 1)) (mCons (mFrz (mUn dLen (mVar 0))) mNil))))))
  (mRet (mC (.bl false)))
  (mFl .nx))
  (mSeq (mIf (mB (mBin dNe true (mVar 1) (mLc (mIt dItS (mCp (mVar 0))) [4] (mgName 4) mTrue (mFrz (mUn dOrd (mVar 4))))))
  (mRet (mC (.bl false)))
  (mFl .nx))
  (mSeq (mSet 3 (mFrz (mCallP F_bytes_name (mCons (mCp (mVar 1)) mNil))))
  (mRet (mAndV (mUn (dIsi "str") (mVar 3)) (mBin dEq true (mVar 3) (mVar 0))))))))
def F__law_bytes : Fm := fnM 5 1 [] m__law_bytes
def m__law_codes : M Fl :=
  (mSeq (mSet 1 (mFrz (mLc (mIt dItS (mCallP F__law_signs mNil)) [6] (mgName 6) mTrue (mFrz (mUn dOrd (mVar 6))))))
  (mSeq (mSet 2 (mFrz (mAndV (mChain dLe dLe (mC (.int 1)) (mFrz (mUn dLen (mVar 0))) (mC (.int 32))) (mBin dEq true (mUn dLen (mLc (mIt dIt (mCp (mVar 0))) [7] (mgName 7) (mB (mBin dNotIn true (mVar 7) (mVar 1))) (mCp (mVar 7)))) (mC (.int 0))))))
  (mSeq (mSet 3 (mFrz (mUn dList (mVar 0))))
  (mSeq (mTryAs 5 sub_HushError
  (mSet 4 (mFrz (mCallP F_bytes_name (mCons (mCp (mVar 3)) mNil))))
  (fun e => (mRet (mAndV (mUn dNot (mVar 2)) (mAndV (mKit kit_Malformed e) (mBin dEq true (mVar 3) (mVar 0)))))))
  (mRet (mAndV (mVar 2) (mAndV (mUn (dIsi "str") (mVar 4)) (mAndV (mBin dEq true (mLc (mIt dItS (mCp (mVar 4))) [6] (mgName 6) mTrue (mFrz (mUn dOrd (mVar 6)))) (mVar 0)) (mBin dEq true (mVar 3) (mVar 0))))))))))
def F__law_codes : Fm := fnM 8 1 [] m__law_codes
def m_law : M Fl :=
  (mSeq (mSet 1 (mFrz (mCallP F__law_text (mCons (mCp (mVar 0)) mNil))))
  (mSeq (mIf (mOrB (mNotB (mB (mCallP F__law_says (mCons (mFrz (mCallP F_is_name (mCons (mCp (mVar 1)) mNil))) (mCons (mFrz (mCallP F__law_is_right_name (mCons (mCp (mVar 1)) mNil))) mNil))))) (mNotB (mB (mCallP F__law_bytes (mCons (mCp (mVar 1)) mNil)))))
  (mRet (mC (.bl false)))
  (mFl .nx))
  (mSeq (mSet 2 (mFrz (mUn dAbs (mCallP F__law_cell (mCons (mCp (mVar 0)) (mCons (mC (.int 3)) mNil))))))
  (mSeq (mSet 3 (mFrz (mBin dIx true (mArgs dLst (mCons (mFrz (mUn dInt (mVar 2))) (mCons (mC .non) (mCons (mC (.bl true)) (mCons (mFrz (mArgs dLst (mCons (mC (.str "a")) mNil))) (mCons (mFrz (mArgs dTup (mCons (mC (.str "a")) (mCons (mC (.str "b")) mNil)))) (mCons (mFrz (mArgs dLst mNil)) (mCons (mFrz (mC (.dic true [.inr "a"] [.int 1]))) mNil)))))))) (mBin dMod true (mUn dInt (mVar 2)) (mC (.int 7))))))
  (mSeq (mIf (mB (mBin (dIsB true) true (mCallP F_is_name (mCons (mCp (mVar 3)) mNil)) (mC (.bl false))))
  (mRet (mC (.bl false)))
  (mFl .nx))
  (mSeq (mSet 4 (mFrz (mCallP F__law_row (mCons (mFrz (mCallP F__law_cell (mCons (mCp (mVar 0)) (mCons (mC (.int 4)) mNil)))) (mCons (mFrz (mBin dMod true (mUn dInt (mBin dDiv true (mVar 2) (mC (.int 7)))) (mC (.int 35)))) mNil)))))
  (mSeq (mIf (mB (mBin dEq true (mBin dAnd true (mUn dInt (mBin dDiv true (mVar 2) (mC (.int 245)))) (mC (.int 1))) (mC (.int 1))))
  (mSet 4 (mFrz (mLc (mIt dIt (mCp (mVar 4))) [5] (mgName 5) mTrue (mFrz (mBin dAdd true (mC (.int 97)) (mBin dMod true (mUn dInt (mVar 5)) (mC (.int 26))))))))
  (mFl .nx))
  (mRet (mAndV (mCallP F__law_codes (mCons (mCp (mVar 4)) mNil)) (mCallP F__law_codes (mCons (mFrz (mLc (mIt dItS (mCp (mVar 1))) [6] (mgName 6) mTrue (mFrz (mUn dOrd (mVar 6))))) mNil)))))))))))
def F_law : Fm := fnM 7 1 [] m_law
end T60

/-! defs that are called within an except suite (only over the layer that ctx.py makes) -/
namespace Mi
open PySem PySem.Spec PyProof.Rows Hk
open L2 hiding Takes XE CX takes_of passes_call MkP PMk ps_raise mk_of ps_try_as passAt pmk_own
open L2N (Takes XE CX takes_of passes_call MkP PMk ps_raise mk_of ps_try_as passAt pmk_own)
open L2H (FnH HotC RoomH Hot1 cxH fn_ofH run_fnH pe_callH)
theorem _root_.L2H.RoomH.units {k : Nat} {A : Around} (r : RoomH k A) : A.units + 64 < cLine := by have := r.un; omega
section
variable {P : Program} {w : World} {K : PySem.W.Frag} {mg : Str → Option Value} {base : Heap}
theorem okN {x qual : Str} {st : Stmt} {f : Addr} {fd : FuncData} {N ps : List Str} {k : Nat} {sp : Sp} (F : Fun K x qual st f fd) (S : FnScope N ps (defScope st)) (len : ∀ vs H Q E, sp vs H Q E → vs.length = ps.length)
    (hbody : ∀ (cdv : Value) (A : Around) (outer : List Env) (s : Shared) (H : Hp) (vs : List V) (Q : VK) (E : XK), Room k (A.deeper (envOfC qual (defScope st) s.heap.objs.size f cdv)) → sp vs H Q E →
      ∃ t, PSs (cxOf (L2N.CX P w) P w K mg base N qual (defScope st) f cdv A outer s H E) (defBody st) t ∧ t { nx := fun _ H' => Q .non H', rt := Q } (start N vs) H) : FnOk P w K mg base (L2N.CX P w) (k + 1) f fd ps sp := by
  obtain ⟨oc, od, kV, doc, pm, an, cdv, ct, osl, rfl, lk, hcd⟩ := F.ex
  exact fn_of lk hcd S len fun A outer s H vs Q E hr hsp => hbody cdv A outer s H vs Q E hr hsp
theorem okH {x qual : Str} {st : Stmt} {f : Addr} {fd : FuncData} {N ps : List Str} {k : Nat} {sp : Sp} (F : Fun K x qual st f fd) (S : FnScope N ps (defScope st)) (len : ∀ vs H Q E, sp vs H Q E → vs.length = ps.length)
    (hbody : ∀ (cdv : Value) (A : Around) (outer : List Env) (s : Shared) (H : Hp) (vs : List V) (Q : VK) (E : XK) (p : Addr × Obj), HotC (cxH (L2N.CX P w) P w K mg base N qual (defScope st) f cdv A outer s H E p) → RoomH k (A.deeper (envOfC qual (defScope st) s.heap.objs.size f cdv)) → sp vs H Q E →
      ∃ t, PSs (cxH (L2N.CX P w) P w K mg base N qual (defScope st) f cdv A outer s H E p) (defBody st) t ∧ t { nx := fun _ H' => Q .non H', rt := Q } (start N vs) H) : FnH P w K mg base (L2N.CX P w) (k + 1) f fd ps sp := by
  obtain ⟨oc, od, kV, doc, pm, an, cdv, ct, osl, rfl, lk, hcd⟩ := F.ex
  exact fn_ofH lk hcd S len fun A outer s H vs Q E p hot hr hsp => hbody cdv A outer s H vs Q E p ⟨p, hot, List.mem_cons_self⟩ hr hsp
/-- as GF, called while an exception is handled -/
def GFH (P : Program) (w : World) (K : PySem.W.Frag) (mg : Str → Option Value) (base : Heap) (x : Str) (k : Nat) (ps : List Str) (sp : Sp) : Prop :=
  ∃ (f : Addr) (fd : FuncData), mg x = some (.ref f) ∧ PySem.W.keepIn K (.ref f) = true ∧ Binds K fd ps [] ∧ FnH P w K mg base (L2N.CX P w) k f fd ps sp
end
section
variable {X : Cx} {g : Gj} {W : WX} {p pa pb : Bool} {a b e o tg : Expr} {es : List Expr} {ma mb m : M D} {ms : M (List D)} {pos q apos : Pos} {k : Nat} {ps : List Str} {F : Fm} {x : Str}
theorem takesN {Y : Cx} : L2N.Takes Y W0 := fun _ _ ⟨_, _, _, _, _, _, _, _, _, _, _, _, _, _, _, _, w⟩ => False.elim w
theorem hot_suite {Y : Cx} {a : Addr} {oe : Obj} {cls : Value} {d : Option Addr} {pn : List (Addr × Obj)} (hz : L2N.Zn cls d oe) (hf : ∃ vs, oe.data = .fields vs) : HotC (Y.suite a ((a, oe) :: pn)) := by
  obtain ⟨vs, e⟩ := hf
  exact ⟨(a, oe), ⟨rfl, vs, e, hz.2.2 vs e⟩, List.mem_cons_self⟩
theorem hot_blk {Y : Cx} (h : HotC Y) (s : Shared) (H : Hp) (scope : Scope) (cenv : Env) (fp : List Addr) : HotC (Hot2.blkH Y s H scope cenv fp) := h
theorem sf_callPH (G : GFH X.prog X.w X.K X.mg X.base x k ps (spF g.toGd [] F)) (hr : RoomH k X.A) (hc : HotC X) (tk : Takes X W) (ha : SA X g W p (e :: es) ms) (hg : Gl X x := by rfl) (hdb : (x == ("__debug__" : Str)) = false := by decide)
    (he : starEach (e :: es) X.env = (false, eval e X.env) :: starEach es X.env := by rfl) (hpl : (backTo pos (starEach es X.env)).any (·.1) = false := by rfl) : SE X g W .F p (.Call (.Name x q) (e :: es) [] pos) (mCallP F ms) := by
  obtain ⟨f, fd, hm, hk, hb, Fn⟩ := G
  exact PE.imp (pe_callH (E := WE W) Fn hr hc hg hm hk hb (fun σ => passAt tk σ) ha hdb he hpl) fun σ H Q h => callP_core h
theorem sf_callPH0 (G : GFH X.prog X.w X.K X.mg X.base x k ps (spF g.toGd [] F)) (hr : RoomH k X.A) (hc : HotC X) (tk : Takes X W) (hg : Gl X x := by rfl) (hdb : (x == ("__debug__" : Str)) = false := by decide) : SE X g W .F true (.Call (.Name x q) [] [] pos) (mCallP F mNil) := by
  obtain ⟨f, fd, hm, hk, hb, Fn⟩ := G
  refine ⟨fun pins s σ H Q I h => ?_⟩
  refine wpAny_Call_Name_kw (ld_glob I hg hm ?_ hdb)
  refine PySem.W.callWith_K0 I.kIn hk (run_fnH (us := []) (E := WE W) Fn hr hc hb (passAt tk σ) I .nil ?_)
  have := callP_core h
  obtain ⟨n, pn, s, R, Mr, pr, q⟩ := this
  exact q n R H (En.le.refl n) (fun _ => ⟨rfl, rfl, rfl⟩) pr.2.1 [] ⟨rfl, rfl⟩ pr.2.2
def SIH (X : Cx) (g : Gj) (W : WX) (p : Bool) (tg it : Expr) (m : M (List D)) : Prop := L2H.PIH X tg it (tI g W p m)
theorem PIH.imp {X : Cx} {tg e : Expr} {t t' : TI} (h : L2H.PIH X tg e t) (k : ∀ σ H Q, t' σ H Q → t σ H Q) : L2H.PIH X tg e t' := ⟨fun pins s σ H Q I q => h.run pins s σ H Q I (k _ _ _ q)⟩
theorem roomH_mark {A : Around} {v : Option Value} (r : Room k A) : RoomH k (A.mark v) := ⟨r.dp, r.un⟩
theorem sih_str (ha : SE X g W .F p e m) : SIH X g W p tg e (mIt dItS m) :=
  PIH.imp (Hot2.pi_strH ha) fun σ H Rk h => it_core (r := fun v H1 R => ∃ x, v = .str x ∧ R (Its x) H1) (fun n d v rr ds T H Rk hg x o e q => by
    cases d <;> first | (cases e; done) | skip
    rename_i z
    cases e
    obtain ⟨rfl, rfl⟩ := x
    refine ⟨z, rfl, q _ fun n' H' Rest l o' u i => ⟨fun d ed => ?_, fun hi => ?_⟩⟩
    · rw [List.getElem?_map] at ed
      cases ec : z.cps.toList[i]? with
      | none => rw [ec] at ed; cases ed
      | some c =>
        rw [ec] at ed
        cases ed
        have ec' : z.cps[i]? = some c := by rw [← ec]; simp
        refine ⟨(Array.getElem?_eq_some_iff.mp ec').1, fun x2 H2 y => ?_⟩
        obtain ⟨rfl, c', e', rfl⟩ := y
        rw [ec'] at e'
        cases e'
        exact ⟨n', En.le.refl n', rfl, ⟨rfl, rfl⟩, o'⟩
    · rw [List.length_map] at hi
      show z.cps.size ≤ i
      simpa using hi) σ H Rk h
theorem sf_lcH {elt it : Expr} {ifs : List Expr} {scope : Scope} {own : List (Str × Nat)} {ts : List Nat} {mi : M (List D)} {mg : D → MS → Option MS} {mt : M Bool} {me : M D} (hc : HotC X) (hN : X.N.Nodup) (hi : SIH X g W p tg it mi) (ok : BlkOk X.N X.env.scope scope own)
    (hg : ∀ (s : Shared) (H : Hp) (C : Addr) (cl : List (Str × Addr)) (fp : List Addr), SGc (Hot2.blkH X s H scope (compEnvC scope cl C X.env) fp) g ts tg mg) (ht : ∀ (s : Shared) (H : Hp) (C : Addr) (cl : List (Str × Addr)) (fp : List Addr), STs (Hot2.blkH X s H scope (compEnvC scope cl C X.env) fp) g ifs mt)
    (he : ∀ (s : Shared) (H : Hp) (C : Addr) (cl : List (Str × Addr)) (fp : List Addr), SE (Hot2.blkH X s H scope (compEnvC scope cl C X.env) fp) g W0 .C true elt me)
    (hts' : ts.all (fun i => (own.map (·.2)).contains i) = true) (hvN' : (own.map (·.2)).all (fun i => decide (i < X.N.length)) = true) (hv' : (own.map (·.2)).all (fun i => !(g.io.map Prod.fst).contains i) = true) (hs : ∀ x, foldedSetIterable it X.env x = pure x := by intro _; rfl) :
    SE X g W .F p (.ListComp elt [⟨tg, it, ifs, 0⟩] scope pos) (mLc mi (own.map (·.2)) mg mt me) :=
  PE.impI (Hot2.pe_lcH hc hN hi ok hg ht he hs) fun σ H Q hσ h => lc_core (all1 hts') (all2 hvN') (all3 hv') (fun _ _ _ z => z) (fun _ _ _ _ z => z) (fun _ _ _ z => z) (fun _ _ _ z => z) σ H Q hσ h
end
end Mi

namespace T60
open PySem PySem.Spec PyProof.Rows Hk Mi
open L2 hiding Takes XE CX takes_of passes_call MkP PMk ps_raise mk_of ps_try_as passAt pmk_own
open L2N (Takes XE CX takes_of passes_call MkP PMk ps_raise mk_of ps_try_as passAt pmk_own)
open L2H (HotC RoomH FnH roomH_of)
def top (i : Nat) : Stmt := PySem.Challenge.pw_hushlink_k60_names_of_peers.main.body.getD i (.Pass ⟨0, 0, 0, 0⟩)
abbrev s__law_cell : Stmt := top 10
theorem sc__law_cell : FnScope ["_law_script", "_law_k"] ["_law_script", "_law_k"] (defScope s__law_cell) := ⟨rfl, rfl, rfl, by decide +kernel, rfl, by decide +kernel, by decide +kernel⟩
abbrev s__law_row : Stmt := top 12
theorem sc__law_row : FnScope ["_law_cell_here", "_law_count", "_law_row_here", "_law_left", "_law_k", "_law_state"] ["_law_cell_here", "_law_count"] (defScope s__law_row) := ⟨rfl, rfl, rfl, by decide +kernel, rfl, by decide +kernel, by decide +kernel⟩
abbrev s__law_signs : Stmt := top 15
theorem sc__law_signs : FnScope [] [] (defScope s__law_signs) := ⟨rfl, rfl, rfl, by decide +kernel, rfl, by decide +kernel, by decide +kernel⟩
abbrev s__law_char : Stmt := top 16
theorem sc__law_char : FnScope ["_law_cell_here", "_law_chars"] ["_law_cell_here"] (defScope s__law_char) := ⟨rfl, rfl, rfl, by decide +kernel, rfl, by decide +kernel, by decide +kernel⟩
abbrev s__law_text : Stmt := top 17
theorem sc__law_text : FnScope ["_law_script", "_law_cell_here", "_law_row_here", "_law_text_here", "_law_at", "_law_byte"] ["_law_script"] (defScope s__law_text) := ⟨rfl, rfl, rfl, by decide +kernel, rfl, by decide +kernel, by decide +kernel⟩
abbrev s__law_says : Stmt := top 14
theorem sc__law_says : FnScope ["_law_actual", "_law_expected"] ["_law_actual", "_law_expected"] (defScope s__law_says) := ⟨rfl, rfl, rfl, by decide +kernel, rfl, by decide +kernel, by decide +kernel⟩
abbrev s__law_is_right_name : Stmt := top 18
theorem sc__law_is_right_name : FnScope ["_law_text_here", "_law_sign"] ["_law_text_here"] (defScope s__law_is_right_name) := ⟨rfl, rfl, rfl, by decide +kernel, rfl, by decide +kernel, by decide +kernel⟩
abbrev s_is_name : Stmt := top 6
theorem sc_is_name : FnScope ["value", "sign"] ["value"] (defScope s_is_name) := ⟨rfl, rfl, rfl, by decide +kernel, rfl, by decide +kernel, by decide +kernel⟩
abbrev s_name_bytes : Stmt := top 7
theorem sc_name_bytes : FnScope ["name", "sign"] ["name"] (defScope s_name_bytes) := ⟨rfl, rfl, rfl, by decide +kernel, rfl, by decide +kernel, by decide +kernel⟩
abbrev s__law_is_integer : Stmt := top 11
theorem sc__law_is_integer : FnScope ["_law_actual"] ["_law_actual"] (defScope s__law_is_integer) := ⟨rfl, rfl, rfl, by decide +kernel, rfl, by decide +kernel, by decide +kernel⟩
abbrev s__law_is_row : Stmt := top 13
theorem sc__law_is_row : FnScope ["_law_actual", "_law_count", "_law_byte"] ["_law_actual", "_law_count"] (defScope s__law_is_row) := ⟨rfl, rfl, rfl, by decide +kernel, rfl, by decide +kernel, by decide +kernel⟩
abbrev s_bytes_name : Stmt := top 8
theorem sc_bytes_name : FnScope ["data", "signs", "code", "sign", "name"] ["data"] (defScope s_bytes_name) := ⟨rfl, rfl, rfl, by decide +kernel, rfl, by decide +kernel, by decide +kernel⟩
abbrev s__law_bytes : Stmt := top 19
theorem sc__law_bytes : FnScope ["_law_text_here", "_law_actual", "e", "_law_back", "_law_sign"] ["_law_text_here"] (defScope s__law_bytes) := ⟨rfl, rfl, rfl, by decide +kernel, rfl, by decide +kernel, by decide +kernel⟩
abbrev s__law_codes : Stmt := top 20
theorem sc__law_codes : FnScope ["_law_codes_here", "_law_signs_here", "_law_right", "_law_given", "_law_actual", "e", "_law_sign", "_law_code"] ["_law_codes_here"] (defScope s__law_codes) := ⟨rfl, rfl, rfl, by decide +kernel, rfl, by decide +kernel, by decide +kernel⟩
abbrev s_law : Stmt := top 21
theorem sc_law : FnScope ["_law_script", "_law_text_here", "_law_cell_here", "_law_other", "_law_codes_here", "_law_code", "_law_sign"] ["_law_script"] (defScope s_law) := ⟨rfl, rfl, rfl, by decide +kernel, rfl, by decide +kernel, by decide +kernel⟩
def caF (C_HushError C_Malformed : Addr) : Str → Addr := fun x => (List.lookup x [("HushError", C_HushError), ("Malformed", C_Malformed)]).getD 0
abbrev G_ (K : PySem.W.Frag) (C_HushError C_Malformed : Addr) : Gd := ⟨K, caF C_HushError C_Malformed⟩
/-- what the top has written -/
structure Txt (K : PySem.W.Frag) (mg : Str → Option Value) (C_HushError C_Malformed : Addr) : Prop where
  n_abs : mg "abs" = none
  n_bool : mg "bool" = none
  n_int : mg "int" = none
  n_isinstance : mg "isinstance" = none
  n_len : mg "len" = none
  n_list : mg "list" = none
  n_ord : mg "ord" = none
  n_range : mg "range" = none
  n_str : mg "str" = none
  g_NAME_SIZE : GV mg "NAME_SIZE" (.int 32)
  g_SIGNS : GV mg "SIGNS" (.str "abcdefghijklmnopqrstuvwxyz0123456789-")
  gc_HushError : mg "HushError" = some (.ref C_HushError)
  x_HushError : PySem.W.excIn K C_HushError [.type "ValueError", .type "Exception", .type "BaseException", .type "object"] "ValueError.__new__" = true
  k_HushError : PySem.W.keepIn K (.ref C_HushError) = true
  b_HushError : PySem.W.subIn K (.ref C_HushError) (.type "BaseException") = some true
  t_HushError : PySem.W.typeIn K (.ref C_HushError) = some (.type "type")
  h_HushError : PySem.W.hasDictIn K C_HushError = true
  gc_Malformed : mg "Malformed" = some (.ref C_Malformed)
  x_Malformed : PySem.W.excIn K C_Malformed [.type "ValueError", .type "Exception", .type "BaseException", .type "object"] "ValueError.__new__" = true
  k_Malformed : PySem.W.keepIn K (.ref C_Malformed) = true
  b_Malformed : PySem.W.subIn K (.ref C_Malformed) (.type "BaseException") = some true
  t_Malformed : PySem.W.typeIn K (.ref C_Malformed) = some (.type "type")
  h_Malformed : PySem.W.hasDictIn K C_Malformed = true
  sub_HushError : ∀ y b, sub_HushError y = some b → PySem.W.exmOne K (.ref (caF C_HushError C_Malformed y)) (.ref C_HushError) = some b
  kit_Malformed : ∀ y b, kit_Malformed y = some b → ExcC K (caF C_HushError C_Malformed y) ∧ PySem.W.kitOne K (.ref (caF C_HushError C_Malformed y)) (.ref C_Malformed) = some b
section
variable {P : Program} {w : World} {K : PySem.W.Frag} {mg : Str → Option Value} {base : Heap} {C_HushError C_Malformed : Addr}
theorem ok__law_cell {f : Addr} {fd : FuncData} (F : Fun K "_law_cell" "_law_cell" s__law_cell f fd) (T : Txt K mg C_HushError C_Malformed)  :
    FnOk P w K mg base (L2N.CX P w) 1 f fd ["_law_script", "_law_k"] (spF (G_ K C_HushError C_Malformed) [] F__law_cell) := by
  exact okN F sc__law_cell (fun vs H Q E h => fn_len h) (fun cdv A outer s H vs Q E hr h => ⟨tS ⟨(G_ K C_HushError C_Malformed), ([] : List Nat).map fun i => (i, none)⟩ (fun cls d _ H' => E cls d H') m__law_cell, (sss_cons (ss_if (st_cmp op_lt s_lt (se_varP (pv 1)) (SE.fe (sf_call1B call_len (s_len rfl) (by rfl) T.n_len (by decide +kernel) (se_varP (pv 0)))) (nomark _))
      (sss_one (ss_ret (sf_call1Ty call_int1 s_int (by rfl) T.n_int (by decide +kernel) (SE.fe (sf_ix (ix_listK (K := K)) s_ix (se_varP (pv 0)) (se_varP (pv 1)) (fun _ _ => rfl))))))
      sss_nil)
      (sss_one (ss_ret (SE.cf se_int)))), fn_start h (by decide)⟩)
theorem ok__law_row {f : Addr} {fd : FuncData} (F : Fun K "_law_row" "_law_row" s__law_row f fd) (T : Txt K mg C_HushError C_Malformed)  :
    FnOk P w K mg base (L2N.CX P w) 1 f fd ["_law_cell_here", "_law_count"] (spF (G_ K C_HushError C_Malformed) [] F__law_row) := by
  exact okN F sc__law_row (fun vs H Q E h => fn_len h) (fun cdv A outer s H vs Q E hr h => ⟨tS ⟨(G_ K C_HushError C_Malformed), ([] : List Nat).map fun i => (i, none)⟩ (fun cls d _ H' => E cls d H') m__law_row, (sss_cons (ss_set (i := 2) sc__law_row.nd rfl (Or.inl rfl) rfl (sf_lst sa_nil))
      (sss_cons (ss_set (i := 3) sc__law_row.nd rfl (Or.inl rfl) rfl (SE.cf (SE.fc (sf_call1B call_abs s_abs (by rfl) T.n_abs (by decide +kernel) (se_varP (pv 0))))))
      (sss_cons (ss_if (st_cmp op_ge s_ge (se_varP (pv 3)) (SE.fe (sf_op op_pow s_pow (SE.ce se_int) (SE.ce se_int))) (nomark _))
      (sss_cons (ss_for (passes_of rfl) rfl (si_range1 (by rfl) T.n_range (sa_cons (SE.ec (se_varP (pv 1))) sa_nil)) (sg_name (i := 4) sc__law_row.nd rfl (Or.inl rfl) rfl)
      (sss_cons (ss_expr (sf_mut rfl (pv 2) PySem.F.slot_list_append PySem.F.type_list_append mt_append m_append (sa_cons (SE.fc (sf_op op_and s_and (se_varP (pv 3)) (SE.ce se_int))) sa_nil)))
      (sss_one (ss_set (i := 3) sc__law_row.nd rfl (Or.inl rfl) rfl (SE.cf (SE.fc (sf_op op_shr s_shr (se_varP (pv 3)) (SE.ce se_int))))))))
      (sss_one (ss_ret (sf_varM (pv 2)))))
      sss_nil)
      (sss_cons (ss_set (i := 5) sc__law_row.nd rfl (Or.inl rfl) rfl (SE.cf (SE.fc (sf_op op_add s_add (SE.fe (sf_op op_mod s_mod (SE.fe (sf_call1Ty call_int1 s_int (by rfl) T.n_int (by decide +kernel) (se_varP (pv 3)))) (SE.ce se_int))) (SE.ce se_int)))))
      (sss_cons (ss_for (passes_of rfl) rfl (si_range1 (by rfl) T.n_range (sa_cons (SE.ec (se_varP (pv 1))) sa_nil)) (sg_name (i := 4) sc__law_row.nd rfl (Or.inl rfl) rfl)
      (sss_cons (ss_set (i := 5) sc__law_row.nd rfl (Or.inl rfl) rfl (SE.cf (SE.fc (sf_op op_mod s_mod (SE.fe (sf_call1Ty call_int1 s_int (by rfl) T.n_int (by decide +kernel) (SE.fe (sf_op op_mul s_mul (se_varP (pv 5)) (SE.ce se_int))))) (SE.ce se_int)))))
      (sss_one (ss_expr (sf_mut rfl (pv 2) PySem.F.slot_list_append PySem.F.type_list_append mt_append m_append (sa_cons (SE.fc (sf_op op_and s_and (SE.fe (sf_op op_add s_add (SE.fe (sf_op op_fdiv s_div (se_varP (pv 5)) (SE.ce se_int))) (se_varP (pv 5)))) (SE.ce se_int))) sa_nil))))))
      (sss_one (ss_ret (sf_varM (pv 2))))))))), fn_start h (by decide)⟩)
theorem ok__law_signs {f : Addr} {fd : FuncData} (F : Fun K "_law_signs" "_law_signs" s__law_signs f fd) (T : Txt K mg C_HushError C_Malformed)  :
    FnOk P w K mg base (L2N.CX P w) 1 f fd [] (spF (G_ K C_HushError C_Malformed) [] F__law_signs) := by
  exact okN F sc__law_signs (fun vs H Q E h => fn_len h) (fun cdv A outer s H vs Q E hr h => ⟨tS ⟨(G_ K C_HushError C_Malformed), ([] : List Nat).map fun i => (i, none)⟩ (fun cls d _ H' => E cls d H') m__law_signs, (sss_one (ss_ret (SE.cf se_str))), fn_start h (by decide)⟩)
theorem okh__law_signs {f : Addr} {fd : FuncData} (F : Fun K "_law_signs" "_law_signs" s__law_signs f fd) (T : Txt K mg C_HushError C_Malformed)  :
    FnH P w K mg base (L2N.CX P w) 1 f fd [] (spF (G_ K C_HushError C_Malformed) [] F__law_signs) := by
  exact okH F sc__law_signs (fun vs H Q E h => fn_len h) (fun cdv A outer s H vs Q E p hc hr h => ⟨tS ⟨(G_ K C_HushError C_Malformed), ([] : List Nat).map fun i => (i, none)⟩ (fun cls d _ H' => E cls d H') m__law_signs, (sss_one (ss_ret (SE.cf se_str))), fn_start h (by decide)⟩)
theorem ok__law_char {f : Addr} {fd : FuncData} (F : Fun K "_law_char" "_law_char" s__law_char f fd) (T : Txt K mg C_HushError C_Malformed) (G__law_signs : GF P w K mg base "_law_signs" 1 [] (spF (G_ K C_HushError C_Malformed) [] F__law_signs)) :
    FnOk P w K mg base (L2N.CX P w) 2 f fd ["_law_cell_here"] (spF (G_ K C_HushError C_Malformed) [] F__law_char) := by
  exact okN F sc__law_char (fun vs H Q E h => fn_len h) (fun cdv A outer s H vs Q E hr h => ⟨tS ⟨(G_ K C_HushError C_Malformed), ([] : List Nat).map fun i => (i, none)⟩ (fun cls d _ H' => E cls d H') m__law_char, (sss_cons (ss_set (i := 1) sc__law_char.nd rfl (Or.inl rfl) rfl (SE.cf se_str))
      (sss_cons (ss_set (i := 1) sc__law_char.nd rfl (Or.inl rfl) rfl (SE.cf (SE.fc (sf_op op_add_str s_catS (se_varP (pv 1)) (SE.fe (sf_callP0 G__law_signs (hr.mono (by decide)) (takes_of rfl rfl rfl rfl)))))))
      (sss_one (ss_ret (SE.cf (SE.fc (sf_ix ix_str s_ixS (se_varP (pv 1)) (SE.fe (sf_op op_mod s_mod (SE.fe (sf_call1Ty call_int1 s_int (by rfl) T.n_int (by decide +kernel) (se_varP (pv 0)))) (SE.fe (sf_call1B call_len (s_len rfl) (by rfl) T.n_len (by decide +kernel) (se_varP (pv 1)))))) (fun _ _ => rfl)))))))), fn_start h (by decide)⟩)
theorem ok__law_text {f : Addr} {fd : FuncData} (F : Fun K "_law_text" "_law_text" s__law_text f fd) (T : Txt K mg C_HushError C_Malformed) (G__law_cell : GF P w K mg base "_law_cell" 1 ["_law_script", "_law_k"] (spF (G_ K C_HushError C_Malformed) [] F__law_cell)) (G__law_row : GF P w K mg base "_law_row" 1 ["_law_cell_here", "_law_count"] (spF (G_ K C_HushError C_Malformed) [] F__law_row)) (G__law_char : GF P w K mg base "_law_char" 2 ["_law_cell_here"] (spF (G_ K C_HushError C_Malformed) [] F__law_char)) (G__law_signs : GF P w K mg base "_law_signs" 1 [] (spF (G_ K C_HushError C_Malformed) [] F__law_signs)) :
    FnOk P w K mg base (L2N.CX P w) 3 f fd ["_law_script"] (spF (G_ K C_HushError C_Malformed) [] F__law_text) := by
  exact okN F sc__law_text (fun vs H Q E h => fn_len h) (fun cdv A outer s H vs Q E hr h => ⟨tS ⟨(G_ K C_HushError C_Malformed), ([] : List Nat).map fun i => (i, none)⟩ (fun cls d _ H' => E cls d H') m__law_text, (sss_cons (ss_set (i := 1) sc__law_text.nd rfl (Or.inl rfl) rfl (SE.cf (SE.fc (sf_call1B call_abs s_abs (by rfl) T.n_abs (by decide +kernel) (SE.fe (sf_callP G__law_cell (hr.mono (by decide)) (takes_of rfl rfl rfl rfl) (sa_cons (SE.ec (se_varP (pv 0))) (sa_cons se_int sa_nil))))))))
      (sss_cons (ss_set (i := 2) sc__law_text.nd rfl (Or.inl rfl) rfl (SE.cf (SE.fc (sf_callP G__law_row (hr.mono (by decide)) (takes_of rfl rfl rfl rfl) (sa_cons (SE.fc (sf_callP G__law_cell (hr.mono (by decide)) (takes_of rfl rfl rfl rfl) (sa_cons (SE.ec (se_varP (pv 0))) (sa_cons se_int sa_nil)))) (sa_cons (SE.fc (sf_op op_mod s_mod (SE.fe (sf_call1Ty call_int1 s_int (by rfl) T.n_int (by decide +kernel) (se_varP (pv 1)))) (SE.ce se_int))) sa_nil))))))
      (sss_cons (ss_if (st_cmp (op_eqDK (K := K) (by exact hr.units)) s_eq (SE.fe (sf_op op_and s_and (SE.fe (sf_call1Ty call_int1 s_int (by rfl) T.n_int (by decide +kernel) (SE.fe (sf_op op_fdiv s_div (se_varP (pv 1)) (SE.ce se_int))))) (SE.ce se_int))) (SE.ce se_int) (nomark _))
      (sss_one (ss_ret (sf_join rfl (SE.fe (sf_lc (own := [("_law_byte", 5)]) (ts := [5]) rfl sc__law_text.nd (si_list rfl (SE.cf (SE.ec (se_varP (pv 2))))) (blkOk_by (own := [("_law_byte", 5)]) (N := ["_law_script", "_law_cell_here", "_law_row_here", "_law_text_here", "_law_at", "_law_byte"]) (sc := defScope s__law_text) (by decide +kernel)) (fun _ _ _ _ _ => (sgc_name (i := 5) sc__law_text.nd rfl (by first | exact Or.inl rfl | exact Or.inr rfl) (by exact rfl))) (fun _ _ _ _ _ => sts_nil) (fun _ _ _ _ _ => (SE.fc (sf_callP G__law_char (hr.mono (by decide)) takesN (sa_cons (SE.ec (se_varP (pv 5))) sa_nil)))) rfl rfl rfl)))))
      sss_nil)
      (sss_cons (ss_set (i := 3) sc__law_text.nd rfl (Or.inl rfl) rfl (SE.cf (SE.fc (sf_join rfl (SE.fe (sf_lc (own := [("_law_byte", 5)]) (ts := [5]) rfl sc__law_text.nd (si_list rfl (SE.cf (SE.ec (se_varP (pv 2))))) (blkOk_by (own := [("_law_byte", 5)]) (N := ["_law_script", "_law_cell_here", "_law_row_here", "_law_text_here", "_law_at", "_law_byte"]) (sc := defScope s__law_text) (by decide +kernel)) (fun _ _ _ _ _ => (sgc_name (i := 5) sc__law_text.nd rfl (by first | exact Or.inl rfl | exact Or.inr rfl) (by exact rfl))) (fun _ _ _ _ _ => sts_nil) (fun _ _ _ _ _ => (SE.fc (sf_ix ix_str s_ixS (SE.fe (sf_callP0 G__law_signs (hr.mono (by decide)) takesN)) (SE.fe (sf_op op_mod s_mod (SE.fe (sf_call1Ty call_int1 s_int (by rfl) T.n_int (by decide +kernel) (se_varP (pv 5)))) (SE.ce se_int))) (fun _ _ => rfl)))) rfl rfl rfl))))))
      (sss_cons (ss_if (SW.st (sw_and (st_cmp (op_eqDK (K := K) (by exact hr.units)) s_eq (SE.fe (sf_op op_and s_and (SE.fe (sf_call1Ty call_int1 s_int (by rfl) T.n_int (by decide +kernel) (SE.fe (sf_op op_fdiv s_div (se_varP (pv 1)) (SE.ce se_int))))) (SE.ce se_int))) (SE.ce se_int) (nomark _)) (sw_and1 (st_cmp op_gt s_gt (SE.fe (sf_call1B call_len (s_len rfl) (by rfl) T.n_len (by decide +kernel) (se_varP (pv 3)))) (SE.ce se_int) (nomark _)))))
      (sss_cons (ss_set (i := 4) sc__law_text.nd rfl (Or.inl rfl) rfl (SE.cf (SE.fc (sf_op op_mod s_mod (SE.fe (sf_call1Ty call_int1 s_int (by rfl) T.n_int (by decide +kernel) (SE.fe (sf_op op_fdiv s_div (se_varP (pv 1)) (SE.ce se_int))))) (SE.fe (sf_call1B call_len (s_len rfl) (by rfl) T.n_len (by decide +kernel) (se_varP (pv 3))))))))
      (sss_one (ss_set (i := 3) sc__law_text.nd rfl (Or.inl rfl) rfl (SE.cf (SE.fc (sf_op op_add_str s_catS (SE.fe (sf_op op_add_str s_catS (SE.fe (sf_sl sl_str s_slS (se_varP (pv 3)) so_none (so_some (se_varP (pv 4))))) (SE.fe (sf_callP G__law_char (hr.mono (by decide)) (takes_of rfl rfl rfl rfl) (sa_cons (SE.fc (sf_call1B call_abs s_abs (by rfl) T.n_abs (by decide +kernel) (SE.fe (sf_callP G__law_cell (hr.mono (by decide)) (takes_of rfl rfl rfl rfl) (sa_cons (SE.ec (se_varP (pv 0))) (sa_cons se_int sa_nil)))))) sa_nil))))) (SE.fe (sf_sl sl_str s_slS (se_varP (pv 3)) (so_some (SE.fe (sf_op op_add s_add (se_varP (pv 4)) (SE.ce se_int)))) so_none))))))))
      sss_nil)
      (sss_one (ss_ret (SE.cf (SE.ec (se_varP (pv 3))))))))))), fn_start h (by decide)⟩)
theorem ok__law_says {f : Addr} {fd : FuncData} (F : Fun K "_law_says" "_law_says" s__law_says f fd) (T : Txt K mg C_HushError C_Malformed)  :
    FnOk P w K mg base (L2N.CX P w) 1 f fd ["_law_actual", "_law_expected"] (spF (G_ K C_HushError C_Malformed) [] F__law_says) := by
  exact okN F sc__law_says (fun vs H Q E h => fn_len h) (fun cdv A outer s H vs Q E hr h => ⟨tS ⟨(G_ K C_HushError C_Malformed), ([] : List Nat).map fun i => (i, none)⟩ (fun cls d _ H' => E cls d H') m__law_says, (sss_cons (ss_if (st_val (se_varP (pv 1)))
      (sss_one (ss_ret (sf_cmp op_isBl s_isB (se_varP (pv 0)) (SE.ce se_bl) (nomark _))))
      sss_nil)
      (sss_one (ss_ret (sf_cmp op_isBl s_isB (se_varP (pv 0)) (SE.ce se_bl) (nomark _))))), fn_start h (by decide)⟩)
theorem ok__law_is_right_name {f : Addr} {fd : FuncData} (F : Fun K "_law_is_right_name" "_law_is_right_name" s__law_is_right_name f fd) (T : Txt K mg C_HushError C_Malformed) (G__law_signs : GF P w K mg base "_law_signs" 1 [] (spF (G_ K C_HushError C_Malformed) [] F__law_signs)) :
    FnOk P w K mg base (L2N.CX P w) 2 f fd ["_law_text_here"] (spF (G_ K C_HushError C_Malformed) [] F__law_is_right_name) := by
  exact okN F sc__law_is_right_name (fun vs H Q E h => fn_len h) (fun cdv A outer s H vs Q E hr h => ⟨tS ⟨(G_ K C_HushError C_Malformed), ([] : List Nat).map fun i => (i, none)⟩ (fun cls d _ H' => E cls d H') m__law_is_right_name, (sss_cons (ss_if (SW.st (sw_or (st_cmp op_lt s_lt (SE.fe (sf_call1B call_len (s_len rfl) (by rfl) T.n_len (by decide +kernel) (se_varP (pv 0)))) (SE.ce se_int) (nomark _)) (sw_or1 (st_cmp op_gt s_gt (SE.fe (sf_call1B call_len (s_len rfl) (by rfl) T.n_len (by decide +kernel) (se_varP (pv 0)))) (SE.ce se_int) (nomark _)))))
      (sss_one (ss_ret (SE.cf se_bl)))
      sss_nil)
      (sss_one (ss_ret (sf_cmp (op_eqDK (K := K) (by exact hr.units)) s_eq (SE.fe (sf_call1B call_len (s_len rfl) (by rfl) T.n_len (by decide +kernel) (SE.fe (sf_lc (own := [("_law_sign", 1)]) (ts := [1]) rfl sc__law_is_right_name.nd (si_str (SE.cf (SE.ec (se_varP (pv 0))))) (blkOk_by (own := [("_law_sign", 1)]) (N := ["_law_text_here", "_law_sign"]) (sc := defScope s__law_is_right_name) (by decide +kernel)) (fun _ _ _ _ _ => (sgc_name (i := 1) sc__law_is_right_name.nd rfl (by first | exact Or.inl rfl | exact Or.inr rfl) (by exact rfl))) (fun _ _ _ _ _ => (sts_one (st_cmp op_notIn_sign s_notInT (se_varP (pv 1)) (SE.fe (sf_callP0 G__law_signs (hr.mono (by decide)) takesN)) (by rfl)))) (fun _ _ _ _ _ => (SE.ec (se_varP (pv 1)))) rfl rfl rfl)))) (SE.ce se_int) (nomark _))))), fn_start h (by decide)⟩)
theorem okh__law_is_right_name {f : Addr} {fd : FuncData} (F : Fun K "_law_is_right_name" "_law_is_right_name" s__law_is_right_name f fd) (T : Txt K mg C_HushError C_Malformed) (GH__law_signs : GFH P w K mg base "_law_signs" 1 [] (spF (G_ K C_HushError C_Malformed) [] F__law_signs)) :
    FnH P w K mg base (L2N.CX P w) 2 f fd ["_law_text_here"] (spF (G_ K C_HushError C_Malformed) [] F__law_is_right_name) := by
  exact okH F sc__law_is_right_name (fun vs H Q E h => fn_len h) (fun cdv A outer s H vs Q E p hc hr h => ⟨tS ⟨(G_ K C_HushError C_Malformed), ([] : List Nat).map fun i => (i, none)⟩ (fun cls d _ H' => E cls d H') m__law_is_right_name, (sss_cons (ss_if (SW.st (sw_or (st_cmp op_lt s_lt (SE.fe (sf_call1B call_len (s_len rfl) (by rfl) T.n_len (by decide +kernel) (se_varP (pv 0)))) (SE.ce se_int) (nomark _)) (sw_or1 (st_cmp op_gt s_gt (SE.fe (sf_call1B call_len (s_len rfl) (by rfl) T.n_len (by decide +kernel) (se_varP (pv 0)))) (SE.ce se_int) (nomark _)))))
      (sss_one (ss_ret (SE.cf se_bl)))
      sss_nil)
      (sss_one (ss_ret (sf_cmp (op_eqDK (K := K) (by exact hr.units)) s_eq (SE.fe (sf_call1B call_len (s_len rfl) (by rfl) T.n_len (by decide +kernel) (SE.fe (sf_lcH (own := [("_law_sign", 1)]) (ts := [1]) hc sc__law_is_right_name.nd (sih_str (SE.cf (SE.ec (se_varP (pv 0))))) (blkOk_by (own := [("_law_sign", 1)]) (N := ["_law_text_here", "_law_sign"]) (sc := defScope s__law_is_right_name) (by decide +kernel)) (fun _ _ _ _ _ => (sgc_name (i := 1) sc__law_is_right_name.nd rfl (by first | exact Or.inl rfl | exact Or.inr rfl) (by exact rfl))) (fun _ _ _ _ _ => (sts_one (st_cmp op_notIn_sign s_notInT (se_varP (pv 1)) (SE.fe (sf_callPH0 GH__law_signs (hr.mono (by decide)) hc takesN)) (by rfl)))) (fun _ _ _ _ _ => (SE.ec (se_varP (pv 1)))) rfl rfl rfl)))) (SE.ce se_int) (nomark _))))), fn_start h (by decide)⟩)
theorem ok_is_name {f : Addr} {fd : FuncData} (F : Fun K "is_name" "is_name" s_is_name f fd) (T : Txt K mg C_HushError C_Malformed)  :
    FnOk P w K mg base (L2N.CX P w) 1 f fd ["value"] (spF (G_ K C_HushError C_Malformed) [] F_is_name) := by
  exact okN F sc_is_name (fun vs H Q E h => fn_len h) (fun cdv A outer s H vs Q E hr h => ⟨tS ⟨(G_ K C_HushError C_Malformed), ([] : List Nat).map fun i => (i, none)⟩ (fun cls d _ H' => E cls d H') m_is_name, (sss_cons (ss_if (st_not (st_val (SE.fe (se_isi (n := "str") rfl (by rfl) T.n_isinstance (se_varP (pv 0)) (pe_bltn (v := .ty "str") (u := .type "str") (by rfl) T.n_str (by decide +kernel) rfl)))))
      (sss_one (ss_ret (SE.cf se_bl)))
      sss_nil)
      (sss_cons (ss_if (SW.st (sw_or (st_cmp op_lt s_lt (SE.fe (sf_call1B call_len (s_len rfl) (by rfl) T.n_len (by decide +kernel) (se_varP (pv 0)))) (SE.ce se_int) (nomark _)) (sw_or1 (st_cmp op_gt s_gt (SE.fe (sf_call1B call_len (s_len rfl) (by rfl) T.n_len (by decide +kernel) (se_varP (pv 0)))) (SE.ce (se_globI T.g_NAME_SIZE)) (nomark _)))))
      (sss_one (ss_ret (SE.cf se_bl)))
      sss_nil)
      (sss_cons (ss_for (passes_of rfl) rfl (si_str (SE.cf (SE.ec (se_varP (pv 0))))) (sg_name (i := 1) sc_is_name.nd rfl (Or.inl rfl) rfl)
      (sss_one (ss_if (st_cmp op_notIn_sign s_notInT (se_varP (pv 1)) (SE.ce (se_globS T.g_SIGNS)) (by rfl))
      (sss_one (ss_ret (SE.cf se_bl)))
      sss_nil)))
      (sss_one (ss_ret (SE.cf se_bl)))))), fn_start h (by decide)⟩)
theorem ok_name_bytes {f : Addr} {fd : FuncData} (F : Fun K "name_bytes" "name_bytes" s_name_bytes f fd) (T : Txt K mg C_HushError C_Malformed) (G_is_name : GF P w K mg base "is_name" 1 ["value"] (spF (G_ K C_HushError C_Malformed) [] F_is_name)) :
    FnOk P w K mg base (L2N.CX P w) 2 f fd ["name"] (spF (G_ K C_HushError C_Malformed) [] F_name_bytes) := by
  exact okN F sc_name_bytes (fun vs H Q E h => fn_len h) (fun cdv A outer s H vs Q E hr h => ⟨tS ⟨(G_ K C_HushError C_Malformed), ([] : List Nat).map fun i => (i, none)⟩ (fun cls d _ H' => E cls d H') m_name_bytes, (sss_cons (ss_if (st_not (st_val (SE.fe (sf_callP G_is_name (hr.mono (by decide)) (takes_of rfl rfl rfl rfl) (sa_cons (SE.ec (se_varP (pv 0))) sa_nil)))))
      (sss_one (ss_raise (c := "Malformed") (C := C_Malformed) (ps_raise rfl (takes_of rfl rfl rfl rfl) (pmk_own PySem.F.excBase_ValueError T.x_Malformed T.gc_Malformed T.k_Malformed (raises_own T.b_Malformed T.t_Malformed) (by exact rfl))) rfl))
      sss_nil)
      (sss_one (ss_ret (sf_lc (own := [("sign", 1)]) (ts := [1]) rfl sc_name_bytes.nd (si_str (SE.cf (SE.ec (se_varP (pv 0))))) (blkOk_by (own := [("sign", 1)]) (N := ["name", "sign"]) (sc := defScope s_name_bytes) (by decide +kernel)) (fun _ _ _ _ _ => (sgc_name (i := 1) sc_name_bytes.nd rfl (by first | exact Or.inl rfl | exact Or.inr rfl) (by exact rfl))) (fun _ _ _ _ _ => sts_nil) (fun _ _ _ _ _ => (SE.fc (sf_call1B call_ord s_ord (by rfl) T.n_ord (by decide +kernel) (se_varP (pv 1))))) rfl rfl rfl)))), fn_start h (by decide)⟩)
theorem ok__law_is_integer {f : Addr} {fd : FuncData} (F : Fun K "_law_is_integer" "_law_is_integer" s__law_is_integer f fd) (T : Txt K mg C_HushError C_Malformed)  :
    FnOk P w K mg base (L2N.CX P w) 1 f fd ["_law_actual"] (spF (G_ K C_HushError C_Malformed) [] F__law_is_integer) := by
  exact okN F sc__law_is_integer (fun vs H Q E h => fn_len h) (fun cdv A outer s H vs Q E hr h => ⟨tS ⟨(G_ K C_HushError C_Malformed), ([] : List Nat).map fun i => (i, none)⟩ (fun cls d _ H' => E cls d H') m__law_is_integer, (sss_one (ss_ret (se_and (SE.fe (se_isi (n := "int") rfl (by rfl) T.n_isinstance (se_varP (pv 0)) (pe_bltn (v := .ty "int") (u := .type "int") (by rfl) T.n_int (by decide +kernel) rfl))) (se_one (sf_not (SE.fe (se_isi (n := "bool") rfl (by rfl) T.n_isinstance (se_varP (pv 0)) (pe_bltn (v := .ty "bool") (u := .type "bool") (by rfl) T.n_bool (by decide +kernel) rfl)))))))), fn_start h (by decide)⟩)
theorem ok__law_is_row {f : Addr} {fd : FuncData} (F : Fun K "_law_is_row" "_law_is_row" s__law_is_row f fd) (T : Txt K mg C_HushError C_Malformed) (G__law_is_integer : GF P w K mg base "_law_is_integer" 1 ["_law_actual"] (spF (G_ K C_HushError C_Malformed) [] F__law_is_integer)) :
    FnOk P w K mg base (L2N.CX P w) 2 f fd ["_law_actual", "_law_count"] (spF (G_ K C_HushError C_Malformed) [] F__law_is_row) := by
  exact okN F sc__law_is_row (fun vs H Q E h => fn_len h) (fun cdv A outer s H vs Q E hr h => ⟨tS ⟨(G_ K C_HushError C_Malformed), ([] : List Nat).map fun i => (i, none)⟩ (fun cls d _ H' => E cls d H') m__law_is_row, (sss_cons (ss_if (SW.st (sw_or (st_not (st_val (SE.fe (se_isi (n := "list") rfl (by rfl) T.n_isinstance (se_varP (pv 0)) (pe_bltn (v := .ty "list") (u := .type "list") (by rfl) T.n_list (by decide +kernel) rfl))))) (sw_or1 (st_cmp (op_neDK (K := K) (by exact hr.units)) s_ne (SE.fe (sf_call1B call_len (s_len rfl) (by rfl) T.n_len (by decide +kernel) (se_varP (pv 0)))) (se_varP (pv 1)) (nomark _)))))
      (sss_one (ss_ret (SE.cf se_bl)))
      sss_nil)
      (sss_cons (ss_for (passes_of rfl) rfl (si_list rfl (SE.cf (SE.ec (se_varP (pv 0))))) (sg_name (i := 2) sc__law_is_row.nd rfl (Or.inl rfl) rfl)
      (sss_one (ss_if (SW.st (sw_or (st_not (st_val (SE.fe (sf_callP G__law_is_integer (hr.mono (by decide)) (takes_of rfl rfl rfl rfl) (sa_cons (SE.ec (se_varP (pv 2))) sa_nil))))) (sw_or (st_cmp op_lt s_lt (se_varP (pv 2)) (SE.ce se_int) (nomark _)) (sw_or1 (st_cmp op_gt s_gt (se_varP (pv 2)) (SE.ce se_int) (nomark _))))))
      (sss_one (ss_ret (SE.cf se_bl)))
      sss_nil)))
      (sss_one (ss_ret (SE.cf se_bl))))), fn_start h (by decide)⟩)
theorem ok_bytes_name {f : Addr} {fd : FuncData} (F : Fun K "bytes_name" "bytes_name" s_bytes_name f fd) (T : Txt K mg C_HushError C_Malformed) (G_is_name : GF P w K mg base "is_name" 1 ["value"] (spF (G_ K C_HushError C_Malformed) [] F_is_name)) :
    FnOk P w K mg base (L2N.CX P w) 2 f fd ["data"] (spF (G_ K C_HushError C_Malformed) [] F_bytes_name) := by
  exact okN F sc_bytes_name (fun vs H Q E h => fn_len h) (fun cdv A outer s H vs Q E hr h => ⟨tS ⟨(G_ K C_HushError C_Malformed), ([] : List Nat).map fun i => (i, none)⟩ (fun cls d _ H' => E cls d H') m_bytes_name, (sss_cons (ss_set (i := 1) sc_bytes_name.nd rfl (Or.inl rfl) rfl (sf_lst sa_nil))
      (sss_cons (ss_for (passes_of rfl) rfl (si_list rfl (SE.cf (SE.ec (se_varP (pv 0))))) (sg_name (i := 2) sc_bytes_name.nd rfl (Or.inl rfl) rfl)
      (sss_one (ss_for (passes_of rfl) rfl (si_str (SE.cf (se_globS T.g_SIGNS))) (sg_name (i := 3) sc_bytes_name.nd rfl (Or.inl rfl) rfl)
      (sss_one (ss_if (st_cmp (op_eqDK (K := K) (by exact hr.units)) s_eq (SE.fe (sf_call1B call_ord s_ord (by rfl) T.n_ord (by decide +kernel) (se_varP (pv 3)))) (se_varP (pv 2)) (nomark _))
      (sss_one (ss_expr (sf_mut rfl (pv 1) PySem.F.slot_list_append PySem.F.type_list_append mt_append m_append (sa_cons (SE.ec (se_varP (pv 3))) sa_nil))))
      sss_nil)))))
      (sss_cons (ss_set (i := 4) sc_bytes_name.nd rfl (Or.inl rfl) rfl (SE.cf (SE.fc (sf_join rfl (se_varP (pv 1))))))
      (sss_cons (ss_if (SW.st (sw_or (st_cmp (op_neDK (K := K) (by exact hr.units)) s_ne (SE.fe (sf_call1B call_len (s_len rfl) (by rfl) T.n_len (by decide +kernel) (se_varP (pv 4)))) (SE.fe (sf_call1B call_len (s_len rfl) (by rfl) T.n_len (by decide +kernel) (se_varP (pv 0)))) (nomark _)) (sw_or1 (st_not (st_val (SE.fe (sf_callP G_is_name (hr.mono (by decide)) (takes_of rfl rfl rfl rfl) (sa_cons (SE.ec (se_varP (pv 4))) sa_nil))))))))
      (sss_one (ss_raise (c := "Malformed") (C := C_Malformed) (ps_raise rfl (takes_of rfl rfl rfl rfl) (pmk_own PySem.F.excBase_ValueError T.x_Malformed T.gc_Malformed T.k_Malformed (raises_own T.b_Malformed T.t_Malformed) (by exact rfl))) rfl))
      sss_nil)
      (sss_one (ss_ret (SE.cf (SE.ec (se_varP (pv 4)))))))))), fn_start h (by decide)⟩)
end
end T60

namespace T60
open PySem PySem.Spec PyProof.Rows Hk Mi
open L2 hiding Takes XE CX takes_of passes_call MkP PMk ps_raise mk_of ps_try_as passAt pmk_own
open L2N (Takes XE CX takes_of passes_call MkP PMk ps_raise mk_of ps_try_as passAt pmk_own)
open L2H (HotC RoomH FnH roomH_of)
section
variable {P : Program} {w : World} {K : PySem.W.Frag} {mg : Str → Option Value} {base : Heap} {C_HushError C_Malformed : Addr}
theorem ok__law_bytes {f : Addr} {fd : FuncData} (F : Fun K "_law_bytes" "_law_bytes" s__law_bytes f fd) (T : Txt K mg C_HushError C_Malformed) (G_name_bytes : GF P w K mg base "name_bytes" 2 ["name"] (spF (G_ K C_HushError C_Malformed) [] F_name_bytes)) (G__law_is_right_name : GF P w K mg base "_law_is_right_name" 2 ["_law_text_here"] (spF (G_ K C_HushError C_Malformed) [] F__law_is_right_name)) (GH__law_is_right_name : GFH P w K mg base "_law_is_right_name" 2 ["_law_text_here"] (spF (G_ K C_HushError C_Malformed) [] F__law_is_right_name)) (G__law_is_row : GF P w K mg base "_law_is_row" 2 ["_law_actual", "_law_count"] (spF (G_ K C_HushError C_Malformed) [] F__law_is_row)) (G_bytes_name : GF P w K mg base "bytes_name" 2 ["data"] (spF (G_ K C_HushError C_Malformed) [] F_bytes_name)) :
    FnOk P w K mg base (L2N.CX P w) 3 f fd ["_law_text_here"] (spF (G_ K C_HushError C_Malformed) [] F__law_bytes) := by
  exact okN F sc__law_bytes (fun vs H Q E h => fn_len h) (fun cdv A outer s H vs Q E hr h => ⟨tS ⟨(G_ K C_HushError C_Malformed), ([] : List Nat).map fun i => (i, none)⟩ (fun cls d _ H' => E cls d H') m__law_bytes, (sss_cons (ss_try_as (i := 2) (sub := sub_HushError) rfl rfl sc__law_bytes.nd rfl rfl ⟨rfl, by decide, .inl T.gc_HushError⟩ (takes_of rfl rfl rfl rfl) rfl T.sub_HushError (fun W pn xe tk po => (sss_one (ss_set (i := 1) sc__law_bytes.nd rfl (Or.inl rfl) rfl (SE.cf (SE.fc (sf_callP G_name_bytes (hr.mono (by decide)) tk (sa_cons (SE.ec (se_varP (pv 0))) sa_nil)))))))
      (fun a oe pn e hz hf => (sss_one (ss_ret (SE.cf (se_and (SE.fe (sf_not (SE.fe (sf_callPH GH__law_is_right_name (roomH_mark (hr.mono (by decide))) (hot_suite hz hf) takesN (sa_cons (SE.ec (se_varP (pv 0))) sa_nil))))) (se_one (se_isE (i := 2) (kit := kit_Malformed) rfl hz hf rfl (by first | exact .inl rfl | exact .inr (.inl rfl)) List.mem_cons_self T.kit_Malformed (by rfl) T.n_isinstance T.gc_Malformed))))))))
      (sss_cons (ss_if (SW.st (sw_or (st_not (st_val (SE.fe (sf_callP G__law_is_right_name (hr.mono (by decide)) (takes_of rfl rfl rfl rfl) (sa_cons (SE.ec (se_varP (pv 0))) sa_nil))))) (sw_or1 (st_not (st_val (SE.fe (sf_callP G__law_is_row (hr.mono (by decide)) (takes_of rfl rfl rfl rfl) (sa_cons (SE.ec (se_varP (pv 1))) (sa_cons (SE.fc (sf_call1B call_len (s_len rfl) (by rfl) T.n_len (by decide +kernel) (se_varP (pv 0)))) sa_nil)))))))))
      (sss_one (ss_ret (SE.cf se_bl)))
      sss_nil)
      (sss_cons (ss_if (st_cmp (op_neDK (K := K) (by exact hr.units)) s_ne (se_varP (pv 1)) (SE.fe (sf_lc (own := [("_law_sign", 4)]) (ts := [4]) rfl sc__law_bytes.nd (si_str (SE.cf (SE.ec (se_varP (pv 0))))) (blkOk_by (own := [("_law_sign", 4)]) (N := ["_law_text_here", "_law_actual", "e", "_law_back", "_law_sign"]) (sc := defScope s__law_bytes) (by decide +kernel)) (fun _ _ _ _ _ => (sgc_name (i := 4) sc__law_bytes.nd rfl (by first | exact Or.inl rfl | exact Or.inr rfl) (by exact rfl))) (fun _ _ _ _ _ => sts_nil) (fun _ _ _ _ _ => (SE.fc (sf_call1B call_ord s_ord (by rfl) T.n_ord (by decide +kernel) (se_varP (pv 4))))) rfl rfl rfl)) (nomark _))
      (sss_one (ss_ret (SE.cf se_bl)))
      sss_nil)
      (sss_cons (ss_set (i := 3) sc__law_bytes.nd rfl (Or.inl rfl) rfl (SE.cf (SE.fc (sf_callP G_bytes_name (hr.mono (by decide)) (takes_of rfl rfl rfl rfl) (sa_cons (SE.ec (se_varP (pv 1))) sa_nil)))))
      (sss_one (ss_ret (se_and (SE.fe (se_isi (n := "str") rfl (by rfl) T.n_isinstance (se_varP (pv 3)) (pe_bltn (v := .ty "str") (u := .type "str") (by rfl) T.n_str (by decide +kernel) rfl))) (se_one (sf_cmp (op_eqDK (K := K) (by exact hr.units)) s_eq (se_varP (pv 3)) (se_varP (pv 0)) (nomark _)))))))))), fn_start h (by decide)⟩)
theorem ok__law_codes {f : Addr} {fd : FuncData} (F : Fun K "_law_codes" "_law_codes" s__law_codes f fd) (T : Txt K mg C_HushError C_Malformed) (G__law_signs : GF P w K mg base "_law_signs" 1 [] (spF (G_ K C_HushError C_Malformed) [] F__law_signs)) (G_bytes_name : GF P w K mg base "bytes_name" 2 ["data"] (spF (G_ K C_HushError C_Malformed) [] F_bytes_name)) :
    FnOk P w K mg base (L2N.CX P w) 3 f fd ["_law_codes_here"] (spF (G_ K C_HushError C_Malformed) [] F__law_codes) := by
  exact okN F sc__law_codes (fun vs H Q E h => fn_len h) (fun cdv A outer s H vs Q E hr h => ⟨tS ⟨(G_ K C_HushError C_Malformed), ([] : List Nat).map fun i => (i, none)⟩ (fun cls d _ H' => E cls d H') m__law_codes, (sss_cons (ss_set (i := 1) sc__law_codes.nd rfl (Or.inr rfl) rfl (SE.cf (SE.fc (sf_lc (own := [("_law_sign", 6)]) (ts := [6]) rfl sc__law_codes.nd (si_str (sf_callP0 G__law_signs (hr.mono (by decide)) (takes_of rfl rfl rfl rfl))) (blkOk_by (own := [("_law_sign", 6)]) (N := ["_law_codes_here", "_law_signs_here", "_law_right", "_law_given", "_law_actual", "e", "_law_sign", "_law_code"]) (sc := defScope s__law_codes) (by decide +kernel)) (fun _ _ _ _ _ => (sgc_name (i := 6) sc__law_codes.nd rfl (by first | exact Or.inl rfl | exact Or.inr rfl) (by exact rfl))) (fun _ _ _ _ _ => sts_nil) (fun _ _ _ _ _ => (SE.fc (sf_call1B call_ord s_ord (by rfl) T.n_ord (by decide +kernel) (se_varP (pv 6))))) rfl rfl rfl))))
      (sss_cons (ss_set (i := 2) sc__law_codes.nd rfl (Or.inl rfl) rfl (SE.cf (SE.fc (se_and (SE.fe (sf_chain op_le s_le op_le s_le se_int (SE.fc (sf_call1B call_len (s_len rfl) (by rfl) T.n_len (by decide +kernel) (se_varP (pv 0)))) se_int)) (se_one (sf_cmp (op_eqDK (K := K) (by exact hr.units)) s_eq (SE.fe (sf_call1B call_len (s_len rfl) (by rfl) T.n_len (by decide +kernel) (SE.fe (sf_lc (own := [("_law_code", 7)]) (ts := [7]) rfl sc__law_codes.nd (si_list rfl (SE.cf (SE.ec (se_varP (pv 0))))) (blkOk_by (own := [("_law_code", 7)]) (N := ["_law_codes_here", "_law_signs_here", "_law_right", "_law_given", "_law_actual", "e", "_law_sign", "_law_code"]) (sc := defScope s__law_codes) (by decide +kernel)) (fun _ _ _ _ _ => (sgc_name (i := 7) sc__law_codes.nd rfl (by first | exact Or.inl rfl | exact Or.inr rfl) (by exact rfl))) (fun _ _ _ _ _ => (sts_one (st_cmp (op_notInDK (K := K) (by exact room65 hr)) s_notIn (se_varP (pv 7)) (se_varP (pv 1)) (by rfl)))) (fun _ _ _ _ _ => (SE.ec (se_varP (pv 7)))) rfl rfl rfl)))) (SE.ce se_int) (nomark _)))))))
      (sss_cons (ss_set (i := 3) sc__law_codes.nd rfl (Or.inl rfl) rfl (SE.cf (SE.fc (sf_call1Ty (call_listK (K := K)) s_list (by rfl) T.n_list (by decide +kernel) (se_varP (pv 0))))))
      (sss_cons (ss_try_as (i := 5) (sub := sub_HushError) rfl rfl sc__law_codes.nd rfl rfl ⟨rfl, by decide, .inl T.gc_HushError⟩ (takes_of rfl rfl rfl rfl) rfl T.sub_HushError (fun W pn xe tk po => (sss_one (ss_set (i := 4) sc__law_codes.nd rfl (Or.inl rfl) rfl (SE.cf (SE.fc (sf_callP G_bytes_name (hr.mono (by decide)) tk (sa_cons (SE.ec (se_varP (pv 3))) sa_nil)))))))
      (fun a oe pn e hz hf => (sss_one (ss_ret (se_and (SE.fe (sf_not (se_varP (pv 2)))) (se_and (SE.ce (se_isE (i := 5) (kit := kit_Malformed) rfl hz hf rfl (by first | exact .inl rfl | exact .inr (.inl rfl)) List.mem_cons_self T.kit_Malformed (by rfl) T.n_isinstance T.gc_Malformed)) (se_one (sf_cmp (op_eqDK (K := K) (by exact hr.units)) s_eq (se_varP (pv 3)) (se_varP (pv 0)) (nomark _)))))))))
      (sss_one (ss_ret (se_and (se_varP (pv 2)) (se_and (SE.fe (se_isi (n := "str") rfl (by rfl) T.n_isinstance (se_varP (pv 4)) (pe_bltn (v := .ty "str") (u := .type "str") (by rfl) T.n_str (by decide +kernel) rfl))) (se_and (SE.fe (sf_cmp (op_eqDK (K := K) (by exact hr.units)) s_eq (SE.fe (sf_lc (own := [("_law_sign", 6)]) (ts := [6]) rfl sc__law_codes.nd (si_str (SE.cf (SE.ec (se_varP (pv 4))))) (blkOk_by (own := [("_law_sign", 6)]) (N := ["_law_codes_here", "_law_signs_here", "_law_right", "_law_given", "_law_actual", "e", "_law_sign", "_law_code"]) (sc := defScope s__law_codes) (by decide +kernel)) (fun _ _ _ _ _ => (sgc_name (i := 6) sc__law_codes.nd rfl (by first | exact Or.inl rfl | exact Or.inr rfl) (by exact rfl))) (fun _ _ _ _ _ => sts_nil) (fun _ _ _ _ _ => (SE.fc (sf_call1B call_ord s_ord (by rfl) T.n_ord (by decide +kernel) (se_varP (pv 6))))) rfl rfl rfl)) (se_varP (pv 0)) (nomark _))) (se_one (sf_cmp (op_eqDK (K := K) (by exact hr.units)) s_eq (se_varP (pv 3)) (se_varP (pv 0)) (nomark _)))))))))))), fn_start h (by decide)⟩)
theorem ok_law {f : Addr} {fd : FuncData} (F : Fun K "law" "law" s_law f fd) (T : Txt K mg C_HushError C_Malformed) (G__law_text : GF P w K mg base "_law_text" 3 ["_law_script"] (spF (G_ K C_HushError C_Malformed) [] F__law_text)) (G__law_says : GF P w K mg base "_law_says" 1 ["_law_actual", "_law_expected"] (spF (G_ K C_HushError C_Malformed) [] F__law_says)) (G__law_is_right_name : GF P w K mg base "_law_is_right_name" 2 ["_law_text_here"] (spF (G_ K C_HushError C_Malformed) [] F__law_is_right_name)) (G_is_name : GF P w K mg base "is_name" 1 ["value"] (spF (G_ K C_HushError C_Malformed) [] F_is_name)) (G__law_bytes : GF P w K mg base "_law_bytes" 3 ["_law_text_here"] (spF (G_ K C_HushError C_Malformed) [] F__law_bytes)) (G__law_cell : GF P w K mg base "_law_cell" 1 ["_law_script", "_law_k"] (spF (G_ K C_HushError C_Malformed) [] F__law_cell)) (G__law_row : GF P w K mg base "_law_row" 1 ["_law_cell_here", "_law_count"] (spF (G_ K C_HushError C_Malformed) [] F__law_row)) (G__law_codes : GF P w K mg base "_law_codes" 3 ["_law_codes_here"] (spF (G_ K C_HushError C_Malformed) [] F__law_codes)) :
    FnOk P w K mg base (L2N.CX P w) 4 f fd ["_law_script"] (spF (G_ K C_HushError C_Malformed) [] F_law) := by
  exact okN F sc_law (fun vs H Q E h => fn_len h) (fun cdv A outer s H vs Q E hr h => ⟨tS ⟨(G_ K C_HushError C_Malformed), ([] : List Nat).map fun i => (i, none)⟩ (fun cls d _ H' => E cls d H') m_law, (sss_cons (ss_set (i := 1) sc_law.nd rfl (Or.inl rfl) rfl (SE.cf (SE.fc (sf_callP G__law_text (hr.mono (by decide)) (takes_of rfl rfl rfl rfl) (sa_cons (SE.ec (se_varP (pv 0))) sa_nil)))))
      (sss_cons (ss_if (SW.st (sw_or (st_not (st_val (SE.fe (sf_callP G__law_says (hr.mono (by decide)) (takes_of rfl rfl rfl rfl) (sa_cons (SE.fc (sf_callP G_is_name (hr.mono (by decide)) (takes_of rfl rfl rfl rfl) (sa_cons (SE.ec (se_varP (pv 1))) sa_nil))) (sa_cons (SE.fc (sf_callP G__law_is_right_name (hr.mono (by decide)) (takes_of rfl rfl rfl rfl) (sa_cons (SE.ec (se_varP (pv 1))) sa_nil))) sa_nil)))))) (sw_or1 (st_not (st_val (SE.fe (sf_callP G__law_bytes (hr.mono (by decide)) (takes_of rfl rfl rfl rfl) (sa_cons (SE.ec (se_varP (pv 1))) sa_nil))))))))
      (sss_one (ss_ret (SE.cf se_bl)))
      sss_nil)
      (sss_cons (ss_set (i := 2) sc_law.nd rfl (Or.inl rfl) rfl (SE.cf (SE.fc (sf_call1B call_abs s_abs (by rfl) T.n_abs (by decide +kernel) (SE.fe (sf_callP G__law_cell (hr.mono (by decide)) (takes_of rfl rfl rfl rfl) (sa_cons (SE.ec (se_varP (pv 0))) (sa_cons se_int sa_nil))))))))
      (sss_cons (ss_set (i := 3) sc_law.nd rfl (Or.inl rfl) rfl (SE.cf (SE.fc (sf_ix (ix_listK (K := K)) s_ix (SE.fe (sf_lst (sa_cons (SE.fc (sf_call1Ty call_int1 s_int (by rfl) T.n_int (by decide +kernel) (se_varP (pv 2)))) (sa_cons se_non (sa_cons se_bl (sa_cons (SE.fc (sf_lst (sa_cons se_str sa_nil))) (sa_cons (SE.fc (sf_tup (sa_cons se_str (sa_cons se_str sa_nil)))) (sa_cons (SE.fc (sf_lst sa_nil)) (sa_cons (SE.fc sf_dnewC) sa_nil))))))))) (SE.fe (sf_op op_mod s_mod (SE.fe (sf_call1Ty call_int1 s_int (by rfl) T.n_int (by decide +kernel) (se_varP (pv 2)))) (SE.ce se_int))) (fun _ _ => rfl)))))
      (sss_cons (ss_if (st_cmp op_notBl s_isNotB (SE.fe (sf_callP G_is_name (hr.mono (by decide)) (takes_of rfl rfl rfl rfl) (sa_cons (SE.ec (se_varP (pv 3))) sa_nil))) (SE.ce se_bl) (nomark _))
      (sss_one (ss_ret (SE.cf se_bl)))
      sss_nil)
      (sss_cons (ss_set (i := 4) sc_law.nd rfl (Or.inl rfl) rfl (SE.cf (SE.fc (sf_callP G__law_row (hr.mono (by decide)) (takes_of rfl rfl rfl rfl) (sa_cons (SE.fc (sf_callP G__law_cell (hr.mono (by decide)) (takes_of rfl rfl rfl rfl) (sa_cons (SE.ec (se_varP (pv 0))) (sa_cons se_int sa_nil)))) (sa_cons (SE.fc (sf_op op_mod s_mod (SE.fe (sf_call1Ty call_int1 s_int (by rfl) T.n_int (by decide +kernel) (SE.fe (sf_op op_fdiv s_div (se_varP (pv 2)) (SE.ce se_int))))) (SE.ce se_int))) sa_nil))))))
      (sss_cons (ss_if (st_cmp (op_eqDK (K := K) (by exact hr.units)) s_eq (SE.fe (sf_op op_and s_and (SE.fe (sf_call1Ty call_int1 s_int (by rfl) T.n_int (by decide +kernel) (SE.fe (sf_op op_fdiv s_div (se_varP (pv 2)) (SE.ce se_int))))) (SE.ce se_int))) (SE.ce se_int) (nomark _))
      (sss_one (ss_setLc (i := 4) (own := [("_law_code", 5)]) (ts := [5]) rfl sc_law.nd rfl rfl (by exact rfl) (sw_true rfl rfl rfl (by decide +kernel)) (si_list rfl (SE.cf (SE.ec (se_varP (pv 4))))) (blkOk_by (own := [("_law_code", 5)]) (N := ["_law_script", "_law_text_here", "_law_cell_here", "_law_other", "_law_codes_here", "_law_code", "_law_sign"]) (sc := defScope s_law) (by decide +kernel)) (fun _ _ _ _ _ => (sgc_name (i := 5) sc_law.nd rfl (by first | exact Or.inl rfl | exact Or.inr rfl) (by exact rfl))) (fun _ _ _ _ _ => sts_nil) (fun _ _ _ _ _ => (SE.fc (sf_op op_add s_add (SE.ce se_int) (SE.fe (sf_op op_mod s_mod (SE.fe (sf_call1Ty call_int1 s_int (by rfl) T.n_int (by decide +kernel) (se_varP (pv 5)))) (SE.ce se_int)))))) rfl rfl rfl true))
      sss_nil)
      (sss_one (ss_ret (se_and (SE.fe (sf_callP G__law_codes (hr.mono (by decide)) (takes_of rfl rfl rfl rfl) (sa_cons (SE.ec (se_varP (pv 4))) sa_nil))) (se_one (sf_callP G__law_codes (hr.mono (by decide)) (takes_of rfl rfl rfl rfl) (sa_cons (SE.fc (sf_lc (own := [("_law_sign", 6)]) (ts := [6]) rfl sc_law.nd (si_str (SE.cf (SE.ec (se_varP (pv 1))))) (blkOk_by (own := [("_law_sign", 6)]) (N := ["_law_script", "_law_text_here", "_law_cell_here", "_law_other", "_law_codes_here", "_law_code", "_law_sign"]) (sc := defScope s_law) (by decide +kernel)) (fun _ _ _ _ _ => (sgc_name (i := 6) sc_law.nd rfl (by first | exact Or.inl rfl | exact Or.inr rfl) (by exact rfl))) (fun _ _ _ _ _ => sts_nil) (fun _ _ _ _ _ => (SE.fc (sf_call1B call_ord s_ord (by rfl) T.n_ord (by decide +kernel) (se_varP (pv 6))))) rfl rfl rfl)) sa_nil))))))))))))), fn_start h (by decide)⟩)
end
end T60

/-! the numbers of the small suite -/
namespace Hk
def grp : Nat := 170141183460469231731687303715884105727
def half : Nat := 85070591730234615865843651857942052863
def smPow (b e : Nat) : Nat := b ^ e % grp
theorem grp_pos : 0 < grp := by decide
theorem smPow_lt (b e : Nat) : smPow b e < grp := Nat.mod_lt _ grp_pos
theorem sq_pow (b x : Nat) : (b * b % grp) ^ x % grp = b ^ (2 * x) % grp := by
  rw [← Nat.pow_mod, Nat.pow_mul, Nat.pow_two]
theorem step_even (r b x : Nat) (h : x % 2 = 0) : r * (b * b % grp) ^ (x / 2) % grp = r * b ^ x % grp := by
  rw [Nat.mul_mod, sq_pow, ← Nat.mul_mod, show 2 * (x / 2) = x by omega]
theorem step_odd (r b x : Nat) (h : x % 2 = 1) : (r * b % grp) * (b * b % grp) ^ (x / 2) % grp = r * b ^ x % grp := by
  rw [Nat.mul_mod, sq_pow, Nat.mod_mod, ← Nat.mul_mod, Nat.mul_assoc]
  congr 2
  rw [Nat.mul_comm b, ← Nat.pow_succ, show (2 * (x / 2)).succ = x by omega]
def fpow : Nat → Nat → Nat → Nat → Nat
  | 0, r, _, _ => r
  | f + 1, r, b, x => if x = 0 then r else fpow f (if x % 2 = 1 then r * b % grp else r) (b * b % grp) (x / 2)
theorem fpow_eq : ∀ (f r b x : Nat), x < 2 ^ f → r < grp → fpow f r b x = r * b ^ x % grp
  | 0, r, b, x, h, hr => by
    have : x = 0 := by simpa using h
    subst this
    rw [Nat.pow_zero, Nat.mul_one, Nat.mod_eq_of_lt hr]
    rfl
  | f + 1, r, b, x, h, hr => by
    show (if x = 0 then r else fpow f (if x % 2 = 1 then r * b % grp else r) (b * b % grp) (x / 2)) = _
    by_cases c : x = 0
    · rw [if_pos c, c, Nat.pow_zero, Nat.mul_one, Nat.mod_eq_of_lt hr]
    · rw [if_neg c]
      have h2 : x / 2 < 2 ^ f := by
        rw [Nat.pow_succ] at h
        omega
      by_cases d : x % 2 = 1
      · rw [if_pos d, fpow_eq f _ _ _ h2 (Nat.mod_lt _ grp_pos), step_odd _ _ _ d]
      · rw [if_neg d, fpow_eq f _ _ _ h2 hr, step_even _ _ _ (by omega)]
theorem fpow_sm (b x : Nat) (h : x < 2 ^ 127) : smPow b x = fpow 127 1 b x := by
  rw [fpow_eq 127 1 b x h (by decide), Nat.one_mul]
  rfl
theorem half43 : smPow 43 half = grp - 1 := (fpow_sm 43 half (by decide)).trans (by decide +kernel)
theorem neg_odd (n k : Nat) (h : n * n % grp = 1) (hn : n < grp) : n ^ (2 * k + 1) % grp = n := by
  rw [Nat.pow_succ, Nat.pow_mul, Nat.mul_mod, Nat.pow_mod, Nat.pow_two, h, Nat.one_pow, ← Nat.mul_mod, Nat.one_mul, Nat.mod_eq_of_lt hn]
theorem smPow_odd (b h k : Nat) (e : smPow b h = grp - 1) : smPow (smPow b (2 * k + 1)) h = grp - 1 := by
  unfold smPow at e ⊢
  rw [← Nat.pow_mod, ← Nat.pow_mul, Nat.mul_comm, Nat.pow_mul, Nat.pow_mod, e]
  exact neg_odd _ k (by decide +kernel) (by decide)
/-- a public key's number, of the secret's bytes -/
def pubE (l : List Int) : Nat := 2 * ((leV l).toNat % 21267647932558653966460912964485513216) + 3
def pubN (l : List Int) : Nat := smPow 43 (pubE l)
def pubK (l : List Int) : List Int := leB 16 (pubN l)
def weak (l : List Int) : Bool := decide (grp ≤ (leV l).toNat) || decide (smPow (leV l).toNat half ≠ grp - 1)
theorem grp_256 : grp < 256 ^ 16 := by decide +kernel
theorem pubK_len (l : List Int) : (pubK l).length = 16 := leB_len 16 _
theorem pubK_byte (l : List Int) : isBytes (pubK l) := leB_byte 16 _
theorem pub_weak (l : List Int) : weak (pubK l) = false := by
  have h1 := smPow_lt 43 (pubE l)
  have e : leV (pubK l) = (pubN l : Int) := leV_leB 16 _ (Nat.lt_trans h1 grp_256)
  unfold weak
  rw [e, Int.toNat_natCast]
  have e2 : smPow (pubN l) half = grp - 1 := by
    have := smPow_odd 43 half ((leV l).toNat % 21267647932558653966460912964485513216 + 1) half43
    have e3 : 2 * ((leV l).toNat % 21267647932558653966460912964485513216 + 1) + 1 = pubE l := by unfold pubE; omega
    rw [e3] at this
    exact this
  rw [e2, show decide (grp ≤ pubN l) = false from decide_eq_false (Nat.not_le_of_lt h1)]
  simp
/-- the difference of two lists -/
theorem xor_zero {a b : Nat} : a ^^^ b = 0 ↔ a = b := by
  constructor
  · intro h
    have e : a ^^^ b ^^^ b = 0 ^^^ b := by rw [h]
    rw [Nat.xor_assoc, Nat.xor_self, Nat.xor_zero, Nat.zero_xor] at e
    exact e
  · rintro rfl
    exact Nat.xor_self a
def diff : List Int → List Int → Nat
  | x :: xs, y :: ys => (x.toNat ^^^ y.toNat) ||| diff xs ys
  | _, _ => 0
end Hk

/-! stores: plain mathematics of banks, and names -/
namespace Hk
open PySem PySem.Spec PyProof.Rows
open L2 hiding Takes XE CX takes_of passes_call MkP PMk ps_raise mk_of ps_try_as passAt pmk_own
open L2N (Takes XE CX takes_of passes_call MkP PMk ps_raise mk_of ps_try_as passAt pmk_own)
theorem seg_mid {x y z l : List Int} {i j : Nat} (e : l = x ++ (y ++ z)) (hi : i = x.length) (hj : j = x.length + y.length) : seg l i j = y := by
  subst e hi hj
  unfold seg
  rw [List.drop_left, show x.length + y.length - x.length = y.length by omega, List.take_left]
theorem getD_mid {x z l : List Int} {k : Int} {i : Nat} (e : l = x ++ (k :: z)) (hi : i = x.length) : l.getD i 0 = k := by
  subst e hi
  rw [List.getD_eq_getElem?_getD, List.getElem?_append_right (Nat.le_refl _), Nat.sub_self]
  rfl
theorem recEnd_cat (p t : List Int) (k : Int) (b : List Int) (h1 : 1 ≤ k) (h5 : k ≤ 5) (hb : b.length ≤ 65535) : recEnd (p ++ (recB k b ++ t)) p.length = some (p.length + 8 + b.length) := by
  have hl : (p ++ (recB k b ++ t)).length = p.length + 8 + b.length + t.length := by
    rw [List.length_append, List.length_append, recB_len]
    omega
  have e0 : recB k b = k :: (beB 2 b.length ++ (b ++ (beB 4 (bsum (recH k b)).toNat ++ [255]))) := by
    show recH k b ++ _ = _
    unfold recH
    rw [List.cons_append, List.append_assoc]
  have l2 := beB_len 2 b.length
  have l4 := beB_len 4 (bsum (recH k b)).toNat
  have g0 : (p ++ (recB k b ++ t)).getD p.length 0 = k := getD_mid (x := p) (z := beB 2 b.length ++ (b ++ (beB 4 (bsum (recH k b)).toNat ++ [255])) ++ t) (by rw [e0, List.cons_append]) rfl
  have g1 : seg (p ++ (recB k b ++ t)) (p.length + 1) (p.length + 3) = beB 2 b.length :=
    seg_mid (x := p ++ [k]) (z := b ++ (beB 4 (bsum (recH k b)).toNat ++ [255]) ++ t) (by rw [e0]; simp [List.append_assoc]) (by simp) (by rw [List.length_append, l2]; rfl)
  have v1 : beV (beB 2 b.length) = (b.length : Int) := beV_beB 2 _ (by show b.length < 256 ^ 2; have : (256 : Nat) ^ 2 = 65536 := by decide
                                                                       omega)
  have hm : p.length + 3 + (beV (seg (p ++ (recB k b ++ t)) (p.length + 1) (p.length + 3))).toNat = p.length + 3 + b.length := by rw [g1, v1]; rfl
  have g2 : (p ++ (recB k b ++ t)).getD (p.length + 3 + b.length + 4) 0 = 255 :=
    getD_mid (x := p ++ ([k] ++ beB 2 b.length ++ b ++ beB 4 (bsum (recH k b)).toNat)) (z := t) (by rw [e0]; simp [List.append_assoc]) (by simp only [List.length_append, List.length_cons, List.length_nil, l2, l4]; omega)
  have g3 : seg (p ++ (recB k b ++ t)) (p.length + 3 + b.length) (p.length + 3 + b.length + 4) = beB 4 (bsum (recH k b)).toNat :=
    seg_mid (x := p ++ recH k b) (z := [255] ++ t) (by unfold recB; simp [List.append_assoc]) (by rw [List.length_append, recH_len]; omega) (by rw [List.length_append, recH_len, l4]; omega)
  have g4 : seg (p ++ (recB k b ++ t)) p.length (p.length + 3 + b.length) = recH k b :=
    seg_mid (x := p) (z := beB 4 (bsum (recH k b)).toNat ++ [255] ++ t) (by unfold recB; simp [List.append_assoc]) rfl (by rw [recH_len]; omega)
  obtain ⟨s0, s1⟩ := bsum_bd (recH k b)
  have v4 : beV (beB 4 (bsum (recH k b)).toNat) = bsum (recH k b) := by
    have e4 : (256 : Int) ^ 4 = 4294967296 := by decide
    have e5 : (256 : Nat) ^ 4 = 4294967296 := by decide
    rw [beV_beB 4 _ (by rw [e5]; rw [e4] at s1; omega)]
    omega
  unfold recEnd
  rw [if_neg (by omega), if_neg (by rw [g0]; omega)]
  simp only
  rw [hm, if_neg (by rw [g2]; omega), g3, g4, v4, if_neg (fun z => z rfl)]
  congr 1
  omega
abbrev Rc := Int × List Int
def okR (r : Rc) : Prop := 1 ≤ r.1 ∧ r.1 ≤ 5 ∧ r.2.length ≤ 65535 ∧ isBytes r.2
def enc (rs : List Rc) : List Int := rs.flatMap fun r => recB r.1 r.2
theorem enc_cons (r : Rc) (rs : List Rc) : enc (r :: rs) = recB r.1 r.2 ++ enc rs := rfl
theorem enc_app (a b : List Rc) : enc (a ++ b) = enc a ++ enc b := List.flatMap_append
theorem enc_len (rs : List Rc) : (enc rs).length = (rs.map fun r => 8 + r.2.length).sum := by
  induction rs with
  | nil => rfl
  | cons r rs ih => rw [enc_cons, List.length_append, ih, recB_len]; rfl
theorem enc_le (rs : List Rc) : rs.length ≤ (enc rs).length := by
  induction rs with
  | nil => exact Nat.le_refl 0
  | cons r rs ih => rw [enc_cons, List.length_append, recB_len, List.length_cons]; omega
/-- the records, and what is no record behind them -/
theorem recsF_cat (t : List Int) : ∀ (rs : List Rc) (p : List Int) (n : Nat), (∀ r ∈ rs, okR r) → rs.length < n → recEnd (p ++ (enc rs ++ t)) (p.length + (enc rs).length) = none → recsF (p ++ (enc rs ++ t)) n p.length = (rs, p.length + (enc rs).length)
  | [], p, n, _, hn, ht => by
    obtain ⟨m, rfl⟩ : ∃ m, n = m + 1 := ⟨n - 1, by have : 0 < n := hn; omega⟩
    show (match recEnd (p ++ ([] ++ t)) p.length with
      | none => ([], p.length)
      | some e => _) = _
    have ht' : recEnd (p ++ ([] ++ t)) p.length = none := ht
    rw [ht']
    rfl
  | r :: rs, p, n, ho, hn, ht => by
    obtain ⟨m, rfl⟩ : ∃ m, n = m + 1 := ⟨n - 1, by omega⟩
    have hr := ho r (List.mem_cons_self ..)
    have e : p ++ (enc (r :: rs) ++ t) = p ++ (recB r.1 r.2 ++ (enc rs ++ t)) := by rw [enc_cons, List.append_assoc]
    have e2 : p ++ (recB r.1 r.2 ++ (enc rs ++ t)) = (p ++ recB r.1 r.2) ++ (enc rs ++ t) := (List.append_assoc ..).symm
    have el : (p ++ recB r.1 r.2).length = p.length + 8 + r.2.length := by rw [List.length_append, recB_len]; omega
    have ll : (enc (r :: rs)).length = 8 + r.2.length + (enc rs).length := by rw [enc_cons, List.length_append, recB_len]
    have ih := recsF_cat t rs (p ++ recB r.1 r.2) m (fun q hq => ho q (List.mem_cons_of_mem _ hq)) (by rw [List.length_cons] at hn; omega) (by
      rw [el, ← e2, ← e]
      rw [ll] at ht
      rw [show p.length + 8 + r.2.length + (enc rs).length = p.length + (8 + r.2.length + (enc rs).length) by omega]
      exact ht)
    rw [e]
    show (match recEnd (p ++ (recB r.1 r.2 ++ (enc rs ++ t))) p.length with
      | none => ([], p.length)
      | some e => (((p ++ (recB r.1 r.2 ++ (enc rs ++ t))).getD p.length 0, seg (p ++ (recB r.1 r.2 ++ (enc rs ++ t))) (p.length + 3) (e - 5)) :: (recsF (p ++ (recB r.1 r.2 ++ (enc rs ++ t))) m e).1, (recsF (p ++ (recB r.1 r.2 ++ (enc rs ++ t))) m e).2)) = _
    rw [recEnd_cat p (enc rs ++ t) r.1 r.2 hr.1 hr.2.1 hr.2.2.1]
    dsimp only
    rw [e2, ← el, ih]
    have e3 : recB r.1 r.2 = r.1 :: (beB 2 r.2.length ++ (r.2 ++ (beB 4 (bsum (recH r.1 r.2)).toNat ++ [255]))) := by
      show recH r.1 r.2 ++ _ = _
      unfold recH
      rw [List.cons_append, List.append_assoc]
    have l2 := beB_len 2 r.2.length
    rw [getD_mid (x := p) (k := r.1) (z := (beB 2 r.2.length ++ (r.2 ++ (beB 4 (bsum (recH r.1 r.2)).toNat ++ [255]))) ++ (enc rs ++ t)) (by rw [← e2, e3]; rfl) rfl,
      seg_mid (x := p ++ ([r.1] ++ beB 2 r.2.length)) (y := r.2) (z := beB 4 (bsum (recH r.1 r.2)).toNat ++ [255] ++ (enc rs ++ t)) (by rw [e3]; simp [List.append_assoc])
        (by simp only [List.length_append, List.length_cons, List.length_nil, l2]) (by rw [el]; simp only [List.length_append, List.length_cons, List.length_nil, l2]; omega), el, ll]
    dsimp only
    congr 1
    omega
theorem recEnd_end (l : List Int) : recEnd l l.length = none := by
  unfold recEnd
  rw [if_pos (by omega)]
theorem recs_enc (rs : List Rc) (h : ∀ r ∈ rs, okR r) : recs (enc rs) = (rs, (enc rs).length) := by
  cases rs with
  | nil =>
    rfl
  | cons r rs =>
    have hl := enc_len (r :: rs)
    have hn : (r :: rs).length < (enc (r :: rs)).length := by
      have := enc_le rs
      rw [enc_cons, List.length_append, recB_len, List.length_cons]
      omega
    have := recsF_cat [] (r :: rs) [] (enc (r :: rs)).length h hn (by
      rw [List.append_nil, List.nil_append, List.length_nil, Nat.zero_add]
      exact recEnd_end _)
    rw [List.append_nil, List.nil_append, List.length_nil, Nat.zero_add] at this
    exact this
/-- the start of a bank -/
abbrev Start := Int × List Int × Option (List Int)
def bbody (g : Nat) (sd : List Int) : Option (List Int) → List Int
  | none => beB 4 g ++ sd ++ [0]
  | some s => beB 4 g ++ sd ++ [1] ++ s
theorem take4 (g : Nat) (r : List Int) : (beB 4 g ++ r).take 4 = beB 4 g := by
  have := List.take_left (l₁ := beB 4 g) (l₂ := r)
  rw [beB_len 4 g] at this
  exact this
def rbegin (sz : Nat) (b : List Int) : Option Start :=
  if b.length = 5 + sz ∧ b.getD (4 + sz) 0 = 0 then some (beV (b.take 4), seg b 4 (4 + sz), none)
  else if b.length = 5 + 2 * sz ∧ b.getD (4 + sz) 0 = 1 then some (beV (b.take 4), seg b 4 (4 + sz), some (b.drop (5 + sz)))
  else none
theorem rbegin_bbody (g : Nat) (sd : List Int) (sc : Option (List Int)) (hg : g < 4294967296) (hs : ∀ s, sc = some s → s.length = sd.length) : rbegin sd.length (bbody g sd sc) = some ((g : Int), sd, sc) := by
  have l4 := beB_len 4 g
  have v4 : beV (beB 4 g) = (g : Int) := beV_beB 4 g (by have : (256 : Nat) ^ 4 = 4294967296 := by decide
                                                         omega)
  cases sc with
  | none =>
    have e : bbody g sd none = beB 4 g ++ (sd ++ [0]) := List.append_assoc ..
    unfold rbegin
    rw [if_pos ⟨by rw [e]; simp only [List.length_append, List.length_cons, List.length_nil, l4]; omega, by rw [e]; exact getD_mid (x := beB 4 g ++ sd) (z := []) (by simp [List.append_assoc]) (by rw [List.length_append, l4])⟩]
    rw [e, seg_mid (x := beB 4 g) (y := sd) (z := [0]) rfl l4.symm (by rw [l4]), take4, v4]
  | some s =>
    have hs' := hs s rfl
    have e : bbody g sd (some s) = beB 4 g ++ (sd ++ ([1] ++ s)) := by
      show beB 4 g ++ sd ++ [1] ++ s = _
      rw [List.append_assoc, List.append_assoc]
    have g1 : (bbody g sd (some s)).getD (4 + sd.length) 0 = 1 := by
      rw [e]
      exact getD_mid (x := beB 4 g ++ sd) (z := s) (by simp [List.append_assoc]) (by rw [List.length_append, l4])
    unfold rbegin
    rw [if_neg (by rw [g1]; intro z; exact absurd z.2 (by decide)), if_pos ⟨by rw [e]; simp only [List.length_append, List.length_cons, List.length_nil, l4]; omega, g1⟩]
    rw [e, seg_mid (x := beB 4 g) (y := sd) (z := [1] ++ s) rfl l4.symm (by rw [l4]), take4, v4]
    have e5 : beB 4 g ++ (sd ++ ([1] ++ s)) = (beB 4 g ++ sd ++ [1]) ++ s := by simp [List.append_assoc]
    have e6 : 5 + sd.length = (beB 4 g ++ sd ++ [1]).length := by
      simp only [List.length_append, List.length_cons, List.length_nil, l4]
      omega
    rw [e5, e6, List.drop_left]
def bstart (sz : Nat) (l : List Int) : Option Start :=
  match (recs l).1 with
  | [] => none
  | r :: rs => if r.1 ≠ 1 then none else if ((2, []) : Rc) ∉ r :: rs then none else rbegin sz r.2
def best (sz : Nat) (l0 l1 : List Int) : Option Bool :=
  match bstart sz l0, bstart sz l1 with
  | none, none => none
  | some _, none => some false
  | none, some _ => some true
  | some a, some b => if b.1 > a.1 then some true else some false
def encBk : Option Bool → Int
  | none => -1
  | some false => 0
  | some true => 1
/-- a key record's part -/
abbrev Nm := List (Str × List Int)
def nGet (l : Nm) (x : Str) : Option (List Int) := (l.find? fun p => decide (p.1 = x)).map (·.2)
def nPut (l : Nm) (x : Str) (k : List Int) : Nm := if (l.any fun p => decide (p.1 = x)) = true then l.map (fun p => if p.1 = x then (p.1, k) else p) else l ++ [(x, k)]
def nDrop (l : Nm) (x : Str) : Nm := l.filter fun p => decide (p.1 ≠ x)
def EntV (B : Hp) (kv : Key × V) (n : Str × List Int) : Prop := kv.1 = .inr n.1 ∧ ∃ p, kv.2 = .ref p ∧ B p = some (isL n.2)
def Ents (B : Hp) (kvs : List (Key × V)) (l : Nm) : Prop := Paired (EntV B) kvs l
theorem Ents.mono {B B' : Hp} {kvs : List (Key × V)} {l : Nm} (s : Same B B') (h : Ents B kvs l) : Ents B' kvs l :=
  Paired.mapP h fun _ _ q => ⟨q.1, by obtain ⟨p, e, e2⟩ := q.2; exact ⟨p, e, s _ _ e2⟩⟩
theorem Ents.keys {B : Hp} : ∀ {kvs : List (Key × V)} {l : Nm}, Ents B kvs l → kvs.map (·.1) = (l.map (·.1)).map Sum.inr
  | _, _, .nil => rfl
  | _, _, .cons h t => by
    rw [List.map_cons, List.map_cons, List.map_cons, h.1, Ents.keys t]
theorem Ents.get {B : Hp} {x : Str} : ∀ {kvs : List (Key × V)} {l : Nm}, Ents B kvs l → (valV kvs (.inr x) = none ∧ nGet l x = none) ∨ ∃ p k, valV kvs (.inr x) = some (.ref p) ∧ nGet l x = some k ∧ B p = some (isL k) ∧ (x, k) ∈ l
  | _, _, .nil => .inl ⟨rfl, rfl⟩
  | _, _, .cons (a := kv) (b := n) (l₁ := kvs) (l₂ := l) h t => by
    obtain ⟨h1, p, h2, h3⟩ := h
    by_cases c : n.1 = x
    · refine .inr ⟨p, n.2, ?_, ?_, h3, ?_⟩
      · rw [valV_pos (by rw [h1, c]), h2]
      · unfold nGet
        rw [List.find?_cons, decide_eq_true c]
        rfl
      · rw [← c]
        exact List.mem_cons_self ..
    · have e1 : valV (kv :: kvs) (.inr x) = valV kvs (.inr x) := valV_neg (by rw [h1]; intro z; injection z with z; exact c z)
      have e2 : nGet (n :: l) x = nGet l x := by
        unfold nGet
        rw [List.find?_cons, decide_eq_false c]
      rw [e1, e2]
      rcases Ents.get t with q | ⟨p, k, q1, q2, q3, q4⟩
      · exact .inl q
      · exact .inr ⟨p, k, q1, q2, q3, List.mem_cons_of_mem _ q4⟩
theorem Ents.any {B : Hp} {x : Str} : ∀ {kvs : List (Key × V)} {l : Nm}, Ents B kvs l → (kvs.any fun kv => decide (kv.1 = .inr x)) = l.any fun p => decide (p.1 = x)
  | _, _, .nil => rfl
  | _, _, .cons h t => by
    rw [List.any_cons, List.any_cons, Ents.any t]
    congr 1
    refine decide_eq_decide.mpr ?_
    rw [h.1]
    exact ⟨fun z => by injection z, fun z => by rw [z]⟩
theorem Ents.setv {B : Hp} {x : Str} {p : Addr} {k : List Int} (hp : B p = some (isL k)) : ∀ {kvs : List (Key × V)} {l : Nm}, Ents B kvs l →
    Ents B (kvs.map fun kv => if kv.1 = .inr x then (kv.1, .ref p) else kv) (l.map fun q => if q.1 = x then (q.1, k) else q)
  | _, _, .nil => .nil
  | _, _, .cons (a := kv) (b := n) h t => by
    rw [List.map_cons, List.map_cons]
    refine .cons ?_ (Ents.setv hp t)
    by_cases c : n.1 = x
    · rw [if_pos c, if_pos (by rw [h.1, c])]
      exact ⟨h.1, p, rfl, hp⟩
    · rw [if_neg c, if_neg (by rw [h.1]; intro z; injection z with z; exact c z)]
      exact h
theorem Ents.put {B : Hp} {x : Str} {p : Addr} {k : List Int} {kvs : List (Key × V)} {l : Nm} (h : Ents B kvs l) (hp : B p = some (isL k)) : Ents B (putK kvs (.inr x) (.ref p)) (nPut l x k) := by
  unfold putK nPut
  rw [h.any]
  split
  · exact h.setv hp
  · exact Paired.snoc (F := EntV B) ⟨rfl, p, rfl, hp⟩ h
theorem Ents.drop {B : Hp} {x : Str} : ∀ {kvs : List (Key × V)} {l : Nm}, Ents B kvs l → Ents B (dropK kvs (.inr x)) (nDrop l x)
  | _, _, .nil => .nil
  | _, _, .cons (a := kv) (b := n) (l₁ := kvs) (l₂ := l) h t => by
    unfold dropK nDrop
    rw [List.filter_cons, List.filter_cons]
    by_cases c : n.1 = x
    · rw [if_neg (by simp [h.1, c]), if_neg (by simp [c])]
      exact Ents.drop t
    · rw [if_pos (by simp [h.1, c]), if_pos (by simp [c])]
      exact .cons h (Ents.drop t)
def OptV (B : Hp) (v : V) : Option (List Int) → Prop
  | none => v = .non
  | some l => ∃ p, v = .ref p ∧ B p = some (isL l)
theorem OptV.mono {B B' : Hp} {v : V} {o : Option (List Int)} (s : Same B B') (h : OptV B v o) : OptV B' v o := by
  cases o with
  | none => exact h
  | some l => obtain ⟨p, e, e2⟩ := h; exact ⟨p, e, s _ _ e2⟩
end Hk

/-! the disk, and sorted names -/
namespace Hk
open PySem PySem.Spec PyProof.Rows
open L2 hiding Takes XE CX takes_of passes_call MkP PMk ps_raise mk_of ps_try_as passAt pmk_own
open L2N (Takes XE CX takes_of passes_call MkP PMk ps_raise mk_of ps_try_as passAt pmk_own)
structure AM where
  s0 : List Int
  s1 : List Int
  f0 : List Int
  f1 : List Int
  left : Int
  cr : Int
structure DT where
  dx : Addr
  aS : Addr
  aF : Addr
  s0 : Addr
  s1 : Addr
  f0 : Addr
  f1 : Addr
def dF (t : DT) (ar : Bool) (de : Int) (m : AM) : List (Str × V) := [("_settled", .ref t.aS), ("_fresh", .ref t.aF), ("_armed", .bl ar), ("_deeds", .int de), ("_crashes", .int m.cr)]
def DL (C d : Addr) (t : DT) (ar : Bool) (de : Int) (m : AM) : List (Addr × HO) :=
  [(d, .ins C t.dx (dF t ar de m)), (t.aS, .lst [.ref t.s0, .ref t.s1]), (t.aF, .lst [.ref t.f0, .ref t.f1]), (t.s0, isL m.s0), (t.s1, isL m.s1), (t.f0, isL m.f0), (t.f1, isL m.f1)]
def Rel (ar : Bool) (de : Int) (m : AM) : Prop := if ar = true then de = m.left ∧ 0 ≤ de else m.left = -1
def AM.use (m : AM) : AM := if m.left > 0 then { m with left := m.left - 1 } else m
def AM.s (m : AM) (b : Bool) : List Int := if b then m.s1 else m.s0
def AM.f (m : AM) (b : Bool) : List Int := if b then m.f1 else m.f0
def AM.setS (m : AM) (b : Bool) (l : List Int) : AM := if b then { m with s1 := l } else { m with s0 := l }
def AM.setF (m : AM) (b : Bool) (l : List Int) : AM := if b then { m with f1 := l } else { m with f0 := l }
def bi (b : Bool) : Int := if b then 1 else 0
/-- what both banks hold has room -/
def AM.ok (m : AM) : Prop := m.s0.length + m.f0.length ≤ 65536 ∧ m.s1.length + m.f1.length ≤ 65536 ∧ -1 ≤ m.left
theorem use_s (m : AM) (b : Bool) : m.use.s b = m.s b := by unfold AM.use; split <;> rfl
theorem use_f (m : AM) (b : Bool) : m.use.f b = m.f b := by unfold AM.use; split <;> rfl
theorem use_ok {m : AM} (h : m.ok) : m.use.ok := by
  unfold AM.use
  split
  · exact ⟨h.1, h.2.1, by show -1 ≤ m.left - 1; omega⟩
  · exact h
theorem ok_s {m : AM} (h : m.ok) (b : Bool) : (m.s b).length + (m.f b).length ≤ 65536 := by
  cases b
  · exact h.1
  · exact h.2.1
/-- the deeds: the state behind it; 0 done, 1 no power, 2 order, 3 range -/
def AM.write (m : AM) (b : Bool) (xs : List Int) : AM × Nat :=
  if m.left = 0 then (m, 1) else if (m.use.f (!b)).length > 0 then (m.use, 2)
  else if (m.use.s b).length + (m.use.f b).length + xs.length > 65536 then (m.use, 3) else (m.use.setF b (m.use.f b ++ xs), 0)
def AM.settle (m : AM) (b : Bool) : AM × Nat := if m.left = 0 then (m, 1) else ((m.use.setS b (m.use.s b ++ m.use.f b)).setF b [], 0)
def AM.cut (m : AM) (b : Bool) (n : Int) : AM × Nat :=
  if m.left = 0 then (m, 1) else if m.use.f0.length + m.use.f1.length > 0 then (m.use, 2)
  else if n < 0 ∨ n > (m.use.s b).length then (m.use, 3) else (m.use.setS b ((m.use.s b).take n.toNat), 0)
def crB (m : AM) (b : Bool) (k t : Nat) : AM :=
  (m.setS b (m.s b ++ ((m.f b).take k ++ List.replicate (min t ((m.f b).length - ((m.f b).take k).length)) 0))).setF b []
def AM.crash (m : AM) (k t : Nat) : AM := { crB (crB m false k t) true k t with left := -1, cr := m.cr + 1 }
def AM.arm (m : AM) (n : Int) : AM := if m.left = 0 then m else { m with left := n }
theorem ok_write {m : AM} (h : m.ok) (b : Bool) (xs : List Int) : (m.write b xs).1.ok := by
  have hu := use_ok h
  unfold AM.write
  split
  · exact h
  · split
    · exact hu
    · split
      · exact hu
      · rename_i c
        cases b
        · refine ⟨?_, hu.2.1, hu.2.2⟩
          show m.use.s0.length + (m.use.f0 ++ xs).length ≤ 65536
          have c' : ¬ m.use.s0.length + m.use.f0.length + xs.length > 65536 := c
          rw [List.length_append]
          omega
        · refine ⟨hu.1, ?_, hu.2.2⟩
          show m.use.s1.length + (m.use.f1 ++ xs).length ≤ 65536
          have c' : ¬ m.use.s1.length + m.use.f1.length + xs.length > 65536 := c
          rw [List.length_append]
          omega
theorem ok_settle {m : AM} (h : m.ok) (b : Bool) : (m.settle b).1.ok := by
  have hu := use_ok h
  have h1 := hu.1
  have h2 := hu.2.1
  unfold AM.settle
  split
  · exact h
  · cases b
    · refine ⟨?_, hu.2.1, hu.2.2⟩
      show (m.use.s0 ++ m.use.f0).length + 0 ≤ 65536
      rw [List.length_append]
      omega
    · refine ⟨hu.1, ?_, hu.2.2⟩
      show (m.use.s1 ++ m.use.f1).length + 0 ≤ 65536
      rw [List.length_append]
      omega
theorem ok_cut {m : AM} (h : m.ok) (b : Bool) (n : Int) : (m.cut b n).1.ok := by
  have hu := use_ok h
  have h1 := hu.1
  have h2 := hu.2.1
  unfold AM.cut
  split
  · exact h
  · split
    · exact hu
    · split
      · exact hu
      · cases b
        · refine ⟨?_, hu.2.1, hu.2.2⟩
          show (m.use.s0.take n.toNat).length + m.use.f0.length ≤ 65536
          rw [List.length_take]
          omega
        · refine ⟨hu.1, ?_, hu.2.2⟩
          show (m.use.s1.take n.toNat).length + m.use.f1.length ≤ 65536
          rw [List.length_take]
          omega
theorem cr_len (s f : List Int) (k t : Nat) : (s ++ (f.take k ++ List.replicate (min t (f.length - (f.take k).length)) 0)).length ≤ s.length + f.length := by
  rw [List.length_append, List.length_append, List.length_replicate, List.length_take]
  omega
theorem ok_crB {m : AM} (h : m.ok) (b : Bool) (k t : Nat) : (crB m b k t).ok := by
  have h1 := h.1
  have h2 := h.2.1
  cases b
  · refine ⟨?_, h.2.1, h.2.2⟩
    have := cr_len m.s0 m.f0 k t
    show _ + 0 ≤ 65536
    exact Nat.le_trans this h1
  · refine ⟨h.1, ?_, h.2.2⟩
    have := cr_len m.s1 m.f1 k t
    show _ + 0 ≤ 65536
    exact Nat.le_trans this h2
theorem ok_crash {m : AM} (h : m.ok) (k t : Nat) : (m.crash k t).ok := by
  have h2 := ok_crB (ok_crB h false k t) true k t
  exact ⟨h2.1, h2.2.1, by show (-1 : Int) ≤ -1; decide⟩
theorem ok_arm {m : AM} (h : m.ok) {n : Int} (hn : 0 ≤ n) : (m.arm n).ok := by
  unfold AM.arm
  split
  · exact h
  · exact ⟨h.1, h.2.1, by show -1 ≤ n; omega⟩
/-! ## promises -/
def outc (CP CO CR : Addr) (Q : VK) (E : XK) (n : Nat) (H : Hp) : Prop := match n with
  | 0 => Q .non H
  | 1 => E (.ref CP) none H
  | 2 => E (.ref CO) none H
  | _ => E (.ref CR) none H
def spHas (C : Addr) : Sp := fun vs H Q E => ∃ d t ar de m B M, vs = [.ref d] ∧ Rel ar de m ∧ Wd B (DL C d t ar de m ++ M) H ∧ Q (.bl (decide (m.left ≠ 0))) H
def spUse (C CP : Addr) : Sp := fun vs H Q E => ∃ d t ar de m B M, vs = [.ref d] ∧ Rel ar de m ∧ Wd B (DL C d t ar de m ++ M) H ∧
  (m.left = 0 → E (.ref CP) none H) ∧ (m.left ≠ 0 → ∀ de' H', Rel ar de' m.use → Wd B (DL C d t ar de' m.use ++ M) H' → Q .non H')
def spInit (C : Addr) : Sp := fun vs H Q E => ∃ d dx B M, vs = [.ref d] ∧ Wd B ((d, .ins C dx []) :: M) H ∧ ∀ t H', Wd B (DL C d t false 0 ⟨[], [], [], [], -1, 0⟩ ++ M) H' → Q .non H'
def spWrite (C CP CO CR : Addr) : Sp := fun vs H Q E => ∃ d t ar de m B M b a xs, vs = [.ref d, .int (bi b), .ref a] ∧ m.ok ∧ Rel ar de m ∧ Wd B (DL C d t ar de m ++ ((a, isL xs) :: M)) H ∧
  ∀ ar' de' t' H', Rel ar' de' (m.write b xs).1 → Wd B (DL C d t' ar' de' (m.write b xs).1 ++ ((a, isL xs) :: M)) H' → outc CP CO CR Q E (m.write b xs).2 H'
def spSettle (C CP CO CR : Addr) : Sp := fun vs H Q E => ∃ d t ar de m B M b, vs = [.ref d, .int (bi b)] ∧ m.ok ∧ Rel ar de m ∧ Wd B (DL C d t ar de m ++ M) H ∧
  ∀ ar' de' t' H', Rel ar' de' (m.settle b).1 → Wd B (DL C d t' ar' de' (m.settle b).1 ++ M) H' → outc CP CO CR Q E (m.settle b).2 H'
def spCut (C CP CO CR : Addr) : Sp := fun vs H Q E => ∃ d t ar de m B M b n, vs = [.ref d, .int (bi b), .int n] ∧ m.ok ∧ Rel ar de m ∧ Wd B (DL C d t ar de m ++ M) H ∧
  ∀ ar' de' t' H', Rel ar' de' (m.cut b n).1 → Wd B (DL C d t' ar' de' (m.cut b n).1 ++ M) H' → outc CP CO CR Q E (m.cut b n).2 H'
def spRead (C : Addr) : Sp := fun vs H Q E => ∃ d t ar de m B M b, vs = [.ref d, .int (bi b)] ∧ m.ok ∧ Wd B (DL C d t ar de m ++ M) H ∧ ∀ p H', Wd B ((p, isL (m.s b ++ m.f b)) :: (DL C d t ar de m ++ M)) H' → Q (.ref p) H'
def spPend (C : Addr) : Sp := fun vs H Q E => ∃ d t ar de m B M, vs = [.ref d] ∧ Wd B (DL C d t ar de m ++ M) H ∧ Q (.int ((m.f0.length : Int) + (m.f1.length : Int))) H
def spArm (C : Addr) : Sp := fun vs H Q E => ∃ d t ar de m B M n, vs = [.ref d, .int n] ∧ 0 ≤ n ∧ Rel ar de m ∧ Wd B (DL C d t ar de m ++ M) H ∧
  ∀ ar' de' H', Rel ar' de' (m.arm n) → Wd B (DL C d t ar' de' (m.arm n) ++ M) H' → Q .non H'
def spCrash (C : Addr) : Sp := fun vs H Q E => ∃ d t ar de m B M k n, vs = [.ref d, .int k, .int n] ∧ 0 ≤ k ∧ 0 ≤ n ∧ m.ok ∧ Rel ar de m ∧ Wd B (DL C d t ar de m ++ M) H ∧
  ∀ ar' de' t' H', Rel ar' de' (m.crash k.toNat n.toNat) → Wd B (DL C d t' ar' de' (m.crash k.toNat n.toNat) ++ M) H' → Q .non H'
def spCrs (C : Addr) : Sp := fun vs H Q E => ∃ d t ar de m B M, vs = [.ref d] ∧ Wd B (DL C d t ar de m ++ M) H ∧ Q (.int m.cr) H
/-! ## sorted texts -/
def leS (a b : Str) : Bool := !ltCps b.cps.toList a.cps.toList
theorem leS_iff {a b : Str} : leS a b = true ↔ a.cps.toList ≤ b.cps.toList := by
  unfold leS
  rw [ltCps_eq]
  simp
theorem leS_trans (a b c : Str) (h1 : leS a b = true) (h2 : leS b c = true) : leS a c = true :=
  leS_iff.mpr (List.le_trans (leS_iff.mp h1) (leS_iff.mp h2))
theorem leS_total (a b : Str) : (leS a b || leS b a) = true := by
  rw [Bool.or_eq_true, leS_iff, leS_iff]
  exact List.le_total _ _
theorem leS_anti {a b : Str} (h1 : leS a b = true) (h2 : leS b a = true) : a = b :=
  Str.ext' (Array.toList_inj.mp (List.le_antisymm (leS_iff.mp h1) (leS_iff.mp h2)))
theorem rising_pw : ∀ (l : List Str) (p : Str), risingS p l = true → (p :: l).Pairwise fun a b => leS a b = true
  | [], p, _ => List.pairwise_singleton ..
  | x :: r, p, h => by
    have h' : (!ltCps x.cps.toList p.cps.toList && risingS x r) = true := h
    rw [Bool.and_eq_true] at h'
    have ih := rising_pw r x h'.2
    refine List.pairwise_cons.mpr ⟨fun y hy => ?_, ih⟩
    rcases List.mem_cons.mp hy with e | hy
    · rw [e]
      exact h'.1
    · exact leS_trans _ _ _ h'.1 ((List.pairwise_cons.mp ih).1 y hy)
theorem sorted_pw {l : List Str} (h : sortedS l = true) : l.Pairwise fun a b => leS a b = true := by
  cases l with
  | nil => exact List.Pairwise.nil
  | cons x r => exact rising_pw r x h
def srt (l : List Str) : List Str := l.mergeSort leS
theorem srt_perm (l : List Str) : (srt l).Perm l := List.mergeSort_perm ..
theorem srt_pw (l : List Str) : (srt l).Pairwise fun a b => leS a b = true := List.pairwise_mergeSort leS_trans leS_total l
theorem srt_eq {l ys : List Str} (hp : ys.Perm l) (hs : sortedS ys = true) : ys = srt l :=
  List.Perm.eq_of_pairwise (fun a b _ _ h1 h2 => leS_anti h1 h2) (sorted_pw hs) (srt_pw l) (hp.trans (srt_perm l).symm)
end Hk

/-! promises of octets, records and names -/
namespace Hk
open PySem PySem.Spec PyProof.Rows
open L2 hiding Takes XE CX takes_of passes_call MkP PMk ps_raise mk_of ps_try_as passAt pmk_own
open L2N (Takes XE CX takes_of passes_call MkP PMk ps_raise mk_of ps_try_as passAt pmk_own)
def spToLittle : Sp := fun vs H Q _ => ∃ n s, vs = [.int n, .int s] ∧ 0 ≤ n ∧ 0 ≤ s ∧ s ≤ 4096 ∧ n.toNat < 256 ^ s.toNat ∧ ∀ p H', Wd H [(p, isL (leB s.toNat n.toNat))] H' → Q (.ref p) H'
def spToBig : Sp := fun vs H Q _ => ∃ n s, vs = [.int n, .int s] ∧ 0 ≤ n ∧ 0 ≤ s ∧ s ≤ 4096 ∧ n.toNat < 256 ^ s.toNat ∧ ∀ p H', Wd H [(p, isL (beB s.toNat n.toNat))] H' → Q (.ref p) H'
def spFromBig (K : PySem.W.Frag) : Sp := fun vs H Q _ => ∃ a ns, vs = [.ref a] ∧ SqL K H a (ns.map V.int) ∧ Q (.int (beV ns)) H
def spFromLittle (K : PySem.W.Frag) : Sp := fun vs H Q _ => ∃ a ns, vs = [.ref a] ∧ SqL K H a (ns.map V.int) ∧ ∀ H', Wd H [] H' → Q (.int (leV ns)) H'
def spByteSum (K : PySem.W.Frag) : Sp := fun vs H Q _ => ∃ a ns, vs = [.ref a] ∧ SqL K H a (ns.map V.int) ∧ Q (.int (bsum ns)) H
def spWriteRec (K : PySem.W.Frag) : Sp := fun vs H Q _ => ∃ a ns k, vs = [.int k, .ref a] ∧ 1 ≤ k ∧ k ≤ 5 ∧ ns.length ≤ 65535 ∧ SqL K H a (ns.map V.int) ∧ ∀ p H', Wd H [(p, isL (recB k ns))] H' → Q (.ref p) H'
def encE : Option Nat → Int
  | none => -1
  | some e => (e : Int)
def spRecEnd (K : PySem.W.Frag) : Sp := fun vs H Q _ => ∃ a ns z, vs = [.ref a, .int z] ∧ SqL K H a (ns.map V.int) ∧ isBytes ns ∧ 0 ≤ z ∧ ∀ H', Wd H [] H' → Q (.int (encE (recEnd ns z.toNat))) H'
def RecV (B : Hp) (v : V) (r : Int × List Int) : Prop := ∃ t a, v = .ref t ∧ B t = some (.tup [.int r.1, .ref a]) ∧ B a = some (isL r.2)
theorem RecV.mono {B B' : Hp} (s : Same B B') {v : V} {r : Int × List Int} (h : RecV B v r) : RecV B' v r := by
  obtain ⟨t, a, e, h1, h2⟩ := h
  exact ⟨t, a, e, s _ _ h1, s _ _ h2⟩
def spReadRecs (K : PySem.W.Frag) : Sp := fun vs H Q _ => ∃ a ns B M, vs = [.ref a] ∧ Wd B M H ∧ SqL K B a (ns.map V.int) ∧ isBytes ns ∧ ns.length ≤ 100000 ∧
  ∀ B' H' t p us, Same B B' → Wd B' M H' → B' t = some (.tup [.ref p, .int ((recs ns).2 : Int)]) → B' p = some (.lst us) → Paired (RecV B') us (recs ns).1 → Q (.ref t) H'
theorem seg_bytes {l : List Int} (h : isBytes l) (a b : Nat) : isBytes (seg l a b) := fun y hy => h y (List.mem_of_mem_drop (List.mem_of_mem_take hy))
theorem beV_nn : ∀ (l : List Int), isBytes l → 0 ≤ beV l := fun l h => by
  have := (leV_bound l.reverse fun y hy => h y (List.mem_reverse.mp hy)).1
  unfold leV at this
  rw [List.reverse_reverse] at this
  exact this
def SG : Str := "abcdefghijklmnopqrstuvwxyz0123456789-"
def sgn : List Nat := SG.cps.toList
def inSg (c : Nat) : Bool := decide (c ∈ sgn)
/-- a name of a peer -/
def nameOk (x : Str) : Bool := decide (1 ≤ x.length) && decide (x.length ≤ 32) && x.cps.toList.all inSg
def codes (x : Str) : List Int := x.cps.toList.map fun c => ((c : Nat) : Int)
def sgI (z : Int) : Bool := sgn.any fun (c : Nat) => decide (((c : Nat) : Int) = z)
/-- the name of some codes -/
def bnOk (l : List Int) : Bool := decide (1 ≤ l.length) && decide (l.length ≤ 32) && l.all sgI
def bnOf (l : List Int) : Str := ⟨(l.map Int.toNat).toArray⟩
def spIsName (K : PySem.W.Frag) : Sp := fun vs H Q _ => ∃ v, vs = [v] ∧ ((∃ x, v = .str x ∧ x.length ≤ 100000 ∧ Q (.bl (nameOk x)) H) ∨ (∃ t, TyX K H v t ∧ PySem.W.kitOne K t (.type "str") = some false ∧ Q (.bl false) H))
def spNameBytes (CM : Addr) : Sp := fun vs H Q E => ∃ x, vs = [.str x] ∧ x.length ≤ 100000 ∧ (nameOk x = false → E (.ref CM) none H) ∧ (nameOk x = true → ∀ p H', Wd H [(p, isL (codes x))] H' → Q (.ref p) H')
def spBytesName (K : PySem.W.Frag) (CM : Addr) : Sp := fun vs H Q E => ∃ a l, vs = [.ref a] ∧ SqL K H a (l.map V.int) ∧ l.length ≤ 100000 ∧ (bnOk l = false → ∀ H', Wd H [] H' → E (.ref CM) none H') ∧ (bnOk l = true → ∀ H', Wd H [] H' → Q (.str (bnOf l)) H')
theorem str_len (x : Str) : x.length = x.cps.toList.length := by
  show x.cps.size = _
  rw [Array.length_toList]
theorem codes_len (x : Str) : (codes x).length = x.length := by
  unfold codes
  rw [List.length_map, str_len]
theorem filt_mem : ∀ (l : List Nat) (z : Int), l.Nodup → l.filter (fun (c : Nat) => decide (((c : Nat) : Int) = z)) = if (l.any fun (c : Nat) => decide (((c : Nat) : Int) = z)) = true then [z.toNat] else []
  | [], _, _ => rfl
  | c :: l, z, nd => by
    obtain ⟨h1, h2⟩ := List.nodup_cons.mp nd
    have ih := filt_mem l z h2
    by_cases e : (c : Int) = z
    · have nl : (l.any fun (c : Nat) => decide (((c : Nat) : Int) = z)) = false := by
        rw [List.any_eq_false]
        intro y hy
        simp only [decide_eq_true_eq]
        intro e2
        have : y = c := by omega
        exact h1 (this ▸ hy)
      rw [List.filter_cons, if_pos (decide_eq_true e), ih, nl, if_neg Bool.false_ne_true, List.any_cons, decide_eq_true e, Bool.true_or, if_pos rfl]
      congr 1
      omega
    · rw [List.filter_cons, if_neg (by simpa using e), ih, List.any_cons, decide_eq_false e, Bool.false_or]
theorem sgn_nd : sgn.Nodup := by decide +kernel
/-- the signs of a code -/
def sgOf (z : Int) : List Nat := if sgI z = true then [z.toNat] else []
theorem sg_filt (z : Int) : sgn.filter (fun (c : Nat) => decide (((c : Nat) : Int) = z)) = sgOf z := filt_mem sgn z sgn_nd
def sgsOf (l : List Int) : List Nat := l.flatMap sgOf
theorem sgs_app (l : List Int) (z : Int) : sgsOf (l ++ [z]) = sgsOf l ++ sgOf z := by
  unfold sgsOf
  rw [List.flatMap_append]
  simp
theorem sgs_le : ∀ l : List Int, (sgsOf l).length ≤ l.length
  | [] => Nat.le_refl 0
  | z :: l => by
    have := sgs_le l
    show (sgOf z ++ sgsOf l).length ≤ l.length + 1
    rw [List.length_append]
    unfold sgOf
    split
    · show 1 + _ ≤ _
      omega
    · show 0 + _ ≤ _
      omega
theorem sgs_full : ∀ l : List Int, (sgsOf l).length = l.length → l.all sgI = true ∧ sgsOf l = l.map Int.toNat
  | [], _ => ⟨rfl, rfl⟩
  | z :: l, h => by
    have hl := sgs_le l
    have h' : (sgOf z ++ sgsOf l).length = l.length + 1 := h
    rw [List.length_append] at h'
    by_cases c : sgI z = true
    · have e : sgOf z = [z.toNat] := if_pos c
      rw [e] at h'
      have h2 : (sgsOf l).length = l.length := by
        have : 1 + (sgsOf l).length = l.length + 1 := h'
        omega
      obtain ⟨i1, i2⟩ := sgs_full l h2
      refine ⟨by rw [List.all_cons, c, i1]; rfl, ?_⟩
      show sgOf z ++ sgsOf l = z.toNat :: l.map Int.toNat
      rw [e, i2]
      rfl
    · have e : sgOf z = [] := if_neg c
      rw [e] at h'
      have : 0 + (sgsOf l).length = l.length + 1 := h'
      omega
theorem sgs_all : ∀ l : List Int, l.all sgI = true → sgsOf l = l.map Int.toNat
  | [], _ => rfl
  | z :: l, h => by
    rw [List.all_cons, Bool.and_eq_true] at h
    show sgOf z ++ sgsOf l = z.toNat :: l.map Int.toNat
    rw [show sgOf z = [z.toNat] from if_pos h.1, sgs_all l h.2]
    rfl
theorem sgI_toNat {z : Int} (h : sgI z = true) : inSg z.toNat = true ∧ 0 ≤ z := by
  unfold sgI at h
  obtain ⟨c, hc, e⟩ := List.any_eq_true.mp h
  have e' : (c : Int) = z := of_decide_eq_true e
  refine ⟨?_, by omega⟩
  have : z.toNat = c := by omega
  unfold inSg
  rw [this]
  exact decide_eq_true hc
/-- the text of some signs -/
def txt (l : List Nat) : Str := ⟨l.toArray⟩
theorem txt_len (l : List Nat) : (txt l).length = l.length := by
  rw [str_len]
  rfl
theorem bn_name {l : List Int} : ((decide ((txt (sgsOf l)).length = l.length)) && nameOk (txt (sgsOf l))) = bnOk l := by
  by_cases c : (sgsOf l).length = l.length
  · obtain ⟨h1, h2⟩ := sgs_full l c
    have e : (txt (sgsOf l)).cps.toList = l.map Int.toNat := h2
    have h3 : (l.map Int.toNat).all inSg = true := by
      rw [List.all_map]
      exact List.all_eq_true.mpr fun z hz => (sgI_toNat (List.all_eq_true.mp h1 z hz)).1
    unfold nameOk bnOk
    rw [txt_len, c, decide_eq_true rfl, e, h1, h3, Bool.true_and]
  · have h1 : l.all sgI = false := by
      cases e : l.all sgI with
      | false => rfl
      | true => rw [sgs_all l e, List.length_map] at c; exact absurd rfl c
    unfold bnOk
    rw [txt_len, decide_eq_false c, h1, Bool.false_and, Bool.and_false]
theorem bn_txt {l : List Int} (h : bnOk l = true) : txt (sgsOf l) = bnOf l := by
  unfold bnOk at h
  rw [Bool.and_eq_true] at h
  unfold txt bnOf
  rw [sgs_all l h.2]
end Hk

/-! stores: the model, and promises -/
namespace Hk
open PySem PySem.Spec PyProof.Rows
open L2 hiding Takes XE CX takes_of passes_call MkP PMk ps_raise mk_of ps_try_as passAt pmk_own
open L2N (Takes XE CX takes_of passes_call MkP PMk ps_raise mk_of ps_try_as passAt pmk_own)
/-- the classes of the errors -/
structure Xs where
  p : Addr
  o : Addr
  r : Addr
  e : Addr
  f : Addr
  m : Addr
/-- 0 done, 1 power, 2 order, 3 range, 4 exhausted, 5 refused, 6 malformed -/
def oc (x : Xs) (E : XK) (H : Hp) (q : Prop) : Nat → Prop
  | 0 => q
  | 1 => E (.ref x.p) none H
  | 2 => E (.ref x.o) none H
  | 3 => E (.ref x.r) none H
  | 4 => E (.ref x.e) none H
  | 5 => E (.ref x.f) none H
  | _ => E (.ref x.m) none H
theorem oc_err {x : Xs} {E : XK} {H : Hp} {q q' : Prop} : ∀ {n : Nat}, n ≠ 0 → oc x E H q n → oc x E H q' n
  | 0, h, _ => absurd rfl h
  | 1, _, k => k
  | 2, _, k => k
  | 3, _, k => k
  | 4, _, k => k
  | 5, _, k => k
  | n + 6, _, k => k
theorem oc_of {x : Xs} {E : XK} {H : Hp} {q q' : Prop} {n : Nat} (h0 : n = 0 → q) (h1 : n ≠ 0 → oc x E H q' n) : oc x E H q n := by
  by_cases c : n = 0
  · rw [c]
    exact h0 c
  · exact oc_err c (h1 c)
theorem outc_of {x : Xs} {E : XK} {H : Hp} {q : Prop} {Q : VK} {n : Nat} (hn : n ≤ 3) (h0 : n = 0 → Q .non H) (h1 : n ≠ 0 → oc x E H q n) : outc x.p x.o x.r Q E n H := by
  match n, hn with
  | 0, _ => exact h0 rfl
  | 1, _ => exact h1 (by decide)
  | 2, _ => exact h1 (by decide)
  | 3, _ => exact h1 (by decide)
theorem at_0 {x : V} {l : List V} : atI (x :: l) 0 = some x := by
  unfold atI ixN
  simp
theorem at_1 {x y : V} {l : List V} : atI (x :: y :: l) 1 = some y := by
  unfold atI ixN
  rw [if_pos (by decide), if_pos (by simp; omega)]
  rfl
theorem recsF_bytes {l : List Int} (h : isBytes l) : ∀ (n a : Nat), ∀ r ∈ (recsF l n a).1, isBytes r.2 ∧ r.2.length ≤ l.length
  | 0, _, r, hr => by cases hr
  | n + 1, a, r, hr => by
    have hr' : r ∈ (match recEnd l a with
      | none => ([], a)
      | some e => ((l.getD a 0, seg l (a + 3) (e - 5)) :: (recsF l n e).1, (recsF l n e).2)).1 := hr
    cases e : recEnd l a with
    | none =>
      rw [e] at hr'
      cases hr'
    | some q =>
      rw [e] at hr'
      rcases List.mem_cons.mp hr' with rfl | hr'
      · refine ⟨seg_bytes h _ _, ?_⟩
        show (seg l (a + 3) (q - 5)).length ≤ l.length
        unfold seg
        rw [List.length_take, List.length_drop]
        omega
      · exact recsF_bytes h n q r hr'
theorem recs_bytes {l : List Int} (h : isBytes l) : ∀ r ∈ (recs l).1, isBytes r.2 ∧ r.2.length ≤ l.length := recsF_bytes h _ _
theorem recsF_few {l : List Int} : ∀ (n a : Nat), (recsF l n a).1.length ≤ n
  | 0, a => Nat.le_refl 0
  | n + 1, a => by
    show (match recEnd l a with
      | none => ([], a)
      | some e => ((l.getD a 0, seg l (a + 3) (e - 5)) :: (recsF l n e).1, (recsF l n e).2)).1.length ≤ n + 1
    cases recEnd l a with
    | none => exact Nat.zero_le _
    | some e => exact Nat.succ_le_succ (recsF_few n e)
theorem recs_few (l : List Int) : (recs l).1.length ≤ l.length := recsF_few _ _
theorem rbegin_nn {sz : Nat} {b : List Int} (h : isBytes b) {st : Start} (e : rbegin sz b = some st) : 0 ≤ st.1 := by
  have := beV_nn (b.take 4) fun y hy => h y (List.mem_of_mem_take hy)
  unfold rbegin at e
  split at e
  · rw [← Option.some.inj e]
    exact this
  · split at e
    · rw [← Option.some.inj e]
      exact this
    · cases e
theorem bstart_nn {sz : Nat} {l : List Int} (h : isBytes l) {st : Start} (e : bstart sz l = some st) : 0 ≤ st.1 := by
  unfold bstart at e
  cases hr : (recs l).1 with
  | nil => rw [hr] at e; cases e
  | cons r rs =>
    rw [hr] at e
    dsimp only at e
    split at e
    · cases e
    · split at e
      · cases e
      · exact rbegin_nn ((recs_bytes h r (by rw [hr]; exact List.mem_cons_self ..)).1) e
/-! ## the model -/
def AM.con (d : AM) (b : Bool) : List Int := d.s b ++ d.f b
def AM.by (d : AM) : Prop := ∀ b, isBytes (d.s b) ∧ isBytes (d.f b)
theorem AM.by.con {d : AM} (h : d.by) (b : Bool) : isBytes (d.con b) := fun y hy => by
  rcases List.mem_append.mp hy with q | q
  · exact (h b).1 y q
  · exact (h b).2 y q
theorem con_len {d : AM} (h : d.ok) (b : Bool) : (d.con b).length ≤ 65536 := by
  have := ok_s h b
  unfold AM.con
  rw [List.length_append]
  exact this
theorem write_le (d : AM) (b : Bool) (xs : List Int) : (d.write b xs).2 ≤ 3 := by
  unfold AM.write
  split
  · exact (by decide : 1 ≤ 3)
  · split
    · exact (by decide : 2 ≤ 3)
    · split
      · exact (by decide : 3 ≤ 3)
      · exact (by decide : 0 ≤ 3)
theorem settle_le (d : AM) (b : Bool) : (d.settle b).2 ≤ 3 := by
  unfold AM.settle
  split
  · exact (by decide : 1 ≤ 3)
  · exact (by decide : 0 ≤ 3)
theorem cut_le (d : AM) (b : Bool) (n : Int) : (d.cut b n).2 ≤ 3 := by
  unfold AM.cut
  split
  · exact (by decide : 1 ≤ 3)
  · split
    · exact (by decide : 2 ≤ 3)
    · split
      · exact (by decide : 3 ≤ 3)
      · exact (by decide : 0 ≤ 3)
theorem isBytes_app {a b : List Int} (h1 : isBytes a) (h2 : isBytes b) : isBytes (a ++ b) := fun y hy => by
  rcases List.mem_append.mp hy with q | q
  · exact h1 y q
  · exact h2 y q
theorem isBytes_nil : isBytes [] := fun y hy => by cases hy
theorem use_by {d : AM} (h : d.by) : d.use.by := fun b => by rw [use_s, use_f]; exact h b
theorem by_of {d : AM} (h : isBytes d.s0 ∧ isBytes d.f0 ∧ isBytes d.s1 ∧ isBytes d.f1) : d.by := fun b => by
  cases b
  · exact ⟨h.1, h.2.1⟩
  · exact ⟨h.2.2.1, h.2.2.2⟩
theorem by_to {d : AM} (h : d.by) : isBytes d.s0 ∧ isBytes d.f0 ∧ isBytes d.s1 ∧ isBytes d.f1 := ⟨(h false).1, (h false).2, (h true).1, (h true).2⟩
theorem by_setF {d : AM} (h : d.by) (b : Bool) {l : List Int} (hl : isBytes l) : (d.setF b l).by := by
  obtain ⟨h1, h2, h3, h4⟩ := by_to h
  cases b
  · exact by_of ⟨h1, hl, h3, h4⟩
  · exact by_of ⟨h1, h2, h3, hl⟩
theorem by_setS {d : AM} (h : d.by) (b : Bool) {l : List Int} (hl : isBytes l) : (d.setS b l).by := by
  obtain ⟨h1, h2, h3, h4⟩ := by_to h
  cases b
  · exact by_of ⟨hl, h2, h3, h4⟩
  · exact by_of ⟨h1, h2, hl, h4⟩
theorem by_write {d : AM} (h : d.by) (b : Bool) {xs : List Int} (hx : isBytes xs) : (d.write b xs).1.by := by
  have hu := use_by h
  unfold AM.write
  split
  · exact h
  · split
    · exact hu
    · split
      · exact hu
      · exact by_setF hu b (isBytes_app (hu b).2 hx)
theorem by_settle {d : AM} (h : d.by) (b : Bool) : (d.settle b).1.by := by
  have hu := use_by h
  unfold AM.settle
  split
  · exact h
  · exact by_setF (by_setS hu b (isBytes_app (hu b).1 (hu b).2)) b isBytes_nil
theorem by_cut {d : AM} (h : d.by) (b : Bool) (n : Int) : (d.cut b n).1.by := by
  have hu := use_by h
  unfold AM.cut
  split
  · exact h
  · split
    · exact hu
    · split
      · exact hu
      · exact by_setS hu b fun y hy => (hu b).1 y (List.mem_of_mem_take hy)
/-- write, then settle -/
def AM.put (d : AM) (b : Bool) (xs : List Int) : AM × Nat := if (d.write b xs).2 = 0 then (d.write b xs).1.settle b else d.write b xs
structure SM where
  sz : Nat
  bank : Bool
  cr : Int
  lim : Int
  gen : Int
  seed : List Int
  sec : Option (List Int)
  next : Int
  names : Nm
def kbody (x : Str) (k : List Int) : List Int := (x.length : Int) :: (codes x ++ k)
def nSrt (l : Nm) : Nm := (srt (l.map (·.1))).map fun x => (x, (nGet l x).getD [])
def packR (m : SM) : List Rc := (1, bbody (m.gen + 1).toNat m.seed m.sec) :: (3, beB 8 m.lim.toNat) :: ((nSrt m.names).map (fun n => ((4, kbody n.1 n.2) : Rc)) ++ [(2, [])])
def SM.pack (m : SM) (d : AM) : SM × AM × Nat :=
  if d.cr ≠ m.cr then (m, d, 2)
  else if (d.cut (!m.bank) 0).2 ≠ 0 then (m, (d.cut (!m.bank) 0).1, (d.cut (!m.bank) 0).2)
  else if ((d.cut (!m.bank) 0).1.put (!m.bank) (enc (packR m))).2 ≠ 0 then (m, ((d.cut (!m.bank) 0).1.put (!m.bank) (enc (packR m))).1, ((d.cut (!m.bank) 0).1.put (!m.bank) (enc (packR m))).2)
  else ({ m with bank := !m.bank, gen := m.gen + 1 }, ((d.cut (!m.bank) 0).1.put (!m.bank) (enc (packR m))).1, 0)
def SM.keepR (m : SM) (d : AM) (k : Int) (b : List Int) : SM × AM × Nat :=
  if (d.con m.bank).length + (recB k b).length > 65536 then
    if (m.pack d).2.2 ≠ 0 then m.pack d
    else if ((m.pack d).2.1.con (m.pack d).1.bank).length + (recB k b).length > 65536 then ((m.pack d).1, (m.pack d).2.1, 4)
    else ((m.pack d).1, ((m.pack d).2.1.put (m.pack d).1.bank (recB k b)).1, ((m.pack d).2.1.put (m.pack d).1.bank (recB k b)).2)
  else (m, (d.put m.bank (recB k b)).1, (d.put m.bank (recB k b)).2)
def SM.take (m : SM) (d : AM) : SM × AM × Nat :=
  if d.cr ≠ m.cr then (m, d, 2)
  else if m.next = m.lim then
    if (m.keepR d 3 (beB 8 (m.lim + 16).toNat)).2.2 ≠ 0 then m.keepR d 3 (beB 8 (m.lim + 16).toNat)
    else ({ (m.keepR d 3 (beB 8 (m.lim + 16).toNat)).1 with lim := m.lim + 16, next := m.next + 1 }, (m.keepR d 3 (beB 8 (m.lim + 16).toNat)).2.1, 0)
  else ({ m with next := m.next + 1 }, d, 0)
/-- what keep_name asks of its name and key -/
def badN (sz : Nat) (x : Str) (k : List Int) : Nat := if nameOk x = false then 6 else if k.length ≠ sz then 3 else if weak k = true then 6 else 0
def SM.keepN (m : SM) (d : AM) (x : Str) (k : List Int) : SM × AM × Nat × Bool :=
  if badN m.sz x k ≠ 0 then (m, d, badN m.sz x k, false)
  else if nGet m.names x = some k then (m, d, 0, false)
  else if d.cr ≠ m.cr then (m, d, 2, false)
  else if nGet m.names x ≠ none then (m, d, 5, false)
  else if m.names.length ≥ 64 then (m, d, 4, false)
  else if (m.keepR d 4 (kbody x k)).2.2 ≠ 0 then ((m.keepR d 4 (kbody x k)).1, (m.keepR d 4 (kbody x k)).2.1, (m.keepR d 4 (kbody x k)).2.2, false)
  else ({ (m.keepR d 4 (kbody x k)).1 with names := nPut m.names x k }, (m.keepR d 4 (kbody x k)).2.1, 0, true)
def SM.rel (m : SM) (d : AM) (x : Str) (k : List Int) : SM × AM × Nat :=
  if badN m.sz x k ≠ 0 then (m, d, badN m.sz x k)
  else if d.cr ≠ m.cr then (m, d, 2)
  else if nGet m.names x ≠ some k then (m, d, 5)
  else if (m.keepR d 5 (kbody x k)).2.2 ≠ 0 then m.keepR d 5 (kbody x k)
  else ({ (m.keepR d 5 (kbody x k)).1 with names := nDrop m.names x }, (m.keepR d 5 (kbody x k)).2.1, 0)
def rkey (sz : Nat) (b : List Int) : Option (Str × List Int) :=
  if b.length = 0 then none
  else if b.length ≠ 1 + (b.getD 0 0).toNat + sz then none
  else if bnOk (seg b 1 (1 + (b.getD 0 0).toNat)) = true then some (bnOf (seg b 1 (1 + (b.getD 0 0).toNat)), b.drop (1 + (b.getD 0 0).toNat))
  else none
def takeL (l : Int) (r : Rc) : Int := if r.1 = 3 ∧ r.2.length = 8 then beV r.2 else l
def takeN (sz : Nat) (n : Nm) (r : Rc) : Nm :=
  if r.1 = 4 then match rkey sz r.2 with
    | some p => nPut n p.1 p.2
    | none => n
  else if r.1 = 5 then match rkey sz r.2 with
    | some p => nDrop n p.1
    | none => n
  else n
def openM (sz : Nat) (b : Bool) (cr : Int) (st : Start) (rs : List Rc) : SM := ⟨sz, b, cr, rs.foldl takeL 0, st.1, st.2.1, st.2.2, rs.foldl takeL 0, rs.foldl (takeN sz) []⟩
/-- opening: the state, the disk, the outcome -/
def openS (sz : Nat) (d : AM) : Option SM × AM × Nat :=
  match best sz (d.con false) (d.con true) with
  | none => (none, d, 6)
  | some b => match bstart sz (d.con b) with
    | none => (none, d, 6)
    | some st =>
      if (recs (d.con b)).2 < (d.con b).length then (some (openM sz b d.cr st (recs (d.con b)).1), (d.cut b (recs (d.con b)).2).1, (d.cut b (recs (d.con b)).2).2)
      else (some (openM sz b d.cr st (recs (d.con b)).1), d, 0)
def AM.prep (sz : Nat) (d : AM) (seed : List Int) (sec : Option (List Int)) : AM × Nat :=
  if seed.length ≠ sz then (d, 3)
  else if (∃ s, sec = some s ∧ s.length ≠ sz) then (d, 3)
  else if best sz (d.con false) (d.con true) ≠ none then (d, 2)
  else if (d.cut false 0).2 ≠ 0 then d.cut false 0
  else if ((d.cut false 0).1.cut true 0).2 ≠ 0 then (d.cut false 0).1.cut true 0
  else ((d.cut false 0).1.cut true 0).1.put false (enc [(1, bbody 1 seed sec), (2, [])])
theorem bbody_le {g : Nat} {sd : List Int} {sec : Option (List Int)} (h1 : sd.length ≤ 64) (h2 : ∀ s, sec = some s → s.length ≤ 64) : (bbody g sd sec).length ≤ 200 := by
  have l4 := beB_len 4 g
  cases sec with
  | none =>
    show (beB 4 g ++ sd ++ [0]).length ≤ 200
    rw [List.length_append, List.length_append, l4]
    show 4 + sd.length + 1 ≤ 200
    omega
  | some s =>
    have := h2 s rfl
    show (beB 4 g ++ sd ++ [1] ++ s).length ≤ 200
    rw [List.length_append, List.length_append, List.length_append, l4]
    show 4 + sd.length + 1 + s.length ≤ 200
    omega
theorem enc2 (a b : Rc) : enc [a, b] = recB a.1 a.2 ++ recB b.1 b.2 := by
  rw [enc_cons, enc_cons]
  show recB a.1 a.2 ++ (recB b.1 b.2 ++ []) = _
  rw [List.append_nil]
theorem put_of {d : AM} {b : Bool} {xs : List Int} (c : (d.write b xs).2 = 0) : d.put b xs = (d.write b xs).1.settle b := by
  unfold AM.put
  rw [if_pos c]
theorem put_no {d : AM} {b : Bool} {xs : List Int} (c : (d.write b xs).2 ≠ 0) : d.put b xs = d.write b xs := by
  unfold AM.put
  rw [if_neg c]
theorem best_start {sz : Nat} {d : AM} {b : Bool} (h : best sz (d.con false) (d.con true) = some b) : ∃ st, bstart sz (d.con b) = some st := by
  unfold best at h
  cases e0 : bstart sz (d.con false) with
  | none =>
    cases e1 : bstart sz (d.con true) with
    | none => rw [e0, e1] at h; cases h
    | some s1 =>
      rw [e0, e1] at h
      obtain rfl : true = b := Option.some.inj h
      exact ⟨s1, e1⟩
  | some s0 =>
    cases e1 : bstart sz (d.con true) with
    | none =>
      rw [e0, e1] at h
      obtain rfl : false = b := Option.some.inj h
      exact ⟨s0, e0⟩
    | some s1 =>
      cases b
      · exact ⟨s0, e0⟩
      · exact ⟨s1, e1⟩
theorem bstart_rec {sz : Nat} {l : List Int} {st : Start} (h : bstart sz l = some st) : ∃ r rs, (recs l).1 = r :: rs ∧ rbegin sz r.2 = some st := by
  unfold bstart at h
  cases hr : (recs l).1 with
  | nil => rw [hr] at h; cases h
  | cons r rs =>
    rw [hr] at h
    dsimp only at h
    split at h
    · cases h
    · split at h
      · cases h
      · exact ⟨r, rs, rfl, h⟩
theorem nGet_mem {l : Nm} {x : Str} {k : List Int} (h : nGet l x = some k) : (x, k) ∈ l := by
  unfold nGet at h
  cases e : l.find? fun p => decide (p.1 = x) with
  | none => rw [e] at h; cases h
  | some p =>
    rw [e] at h
    have h1 : p.2 = k := Option.some.inj h
    have h2 := List.find?_some e
    have h3 : p.1 = x := of_decide_eq_true h2
    have h4 := List.mem_of_find?_eq_some e
    rw [← h1, ← h3]
    exact h4
theorem nGet_none {l : Nm} {x : Str} (h : nGet l x = none) : x ∉ l.map (·.1) := by
  intro hm
  obtain ⟨p, hp, e⟩ := List.mem_map.mp hm
  unfold nGet at h
  cases q : l.find? fun p => decide (p.1 = x) with
  | none =>
    have := List.find?_eq_none.mp q p hp
    exact this (decide_eq_true e)
  | some z => rw [q] at h; cases h
theorem nSrt_mem {l : Nm} {n : Str × List Int} (h : n ∈ nSrt l) : n ∈ l := by
  unfold nSrt at h
  obtain ⟨x, hx, rfl⟩ := List.mem_map.mp h
  have hx' := (srt_perm _).mem_iff.mp hx
  cases e : nGet l x with
  | none => exact absurd hx' (nGet_none e)
  | some k => exact nGet_mem e
theorem nSrt_len (l : Nm) : (nSrt l).length = l.length := by
  unfold nSrt
  rw [List.length_map, (srt_perm _).length_eq, List.length_map]
theorem nameOk_le {x : Str} (h : nameOk x = true) : x.length ≤ 32 := by
  unfold nameOk at h
  simp only [Bool.and_eq_true, decide_eq_true_eq] at h
  exact h.1.2
theorem kbody_len (x : Str) (k : List Int) : (kbody x k).length = 1 + x.length + k.length := by
  unfold kbody
  rw [List.length_cons, List.length_append, codes_len]
  omega
theorem enc_mul {rs : List Rc} {n : Nat} (h : ∀ r ∈ rs, r.2.length ≤ n) : (enc rs).length ≤ (8 + n) * rs.length := by
  induction rs with
  | nil => exact Nat.zero_le _
  | cons r rs ih =>
    have h1 := h r (List.mem_cons_self ..)
    have h2 := ih fun q hq => h q (List.mem_cons_of_mem _ hq)
    rw [enc_cons, List.length_append, recB_len, List.length_cons, Nat.mul_succ]
    omega
theorem enc_snoc (rs : List Rc) (k : Int) (b : List Int) : enc (rs ++ [(k, b)]) = enc rs ++ recB k b := by
  rw [enc_app]
  congr 1
  show recB k b ++ [] = _
  rw [List.append_nil]
theorem ok_put {d : AM} (h : d.ok) (b : Bool) (xs : List Int) : (d.put b xs).1.ok := by
  unfold AM.put
  split
  · exact ok_settle (ok_write h b xs) b
  · exact ok_write h b xs
theorem by_put {d : AM} (h : d.by) (b : Bool) {xs : List Int} (hx : isBytes xs) : (d.put b xs).1.by := by
  unfold AM.put
  split
  · exact by_settle (by_write h b hx) b
  · exact by_write h b hx
theorem ok_pack {d : AM} (m : SM) (h : d.ok) : (m.pack d).2.1.ok := by
  unfold SM.pack
  split
  · exact h
  · split
    · exact ok_cut h _ _
    · split
      · exact ok_put (ok_cut h _ _) _ _
      · exact ok_put (ok_cut h _ _) _ _
theorem ok_keepR {d : AM} (m : SM) (h : d.ok) (k : Int) (b : List Int) : (m.keepR d k b).2.1.ok := by
  unfold SM.keepR
  split
  · split
    · exact ok_pack m h
    · split
      · exact ok_pack m h
      · exact ok_put (ok_pack m h) _ _
  · exact ok_put h _ _
theorem Wd.drop2 {B H : Hp} {L N M : List (Addr × HO)} {q : Addr × HO} (h : Wd B (L ++ (N ++ (q :: M))) H) : Wd B (L ++ (N ++ M)) H :=
  h.sub (((List.sublist_cons_self q M).append_left N).append_left L)
def nr (n : Str × List Int) : Rc := (4, kbody n.1 n.2)
def pkH (m : SM) : List Rc := [(1, bbody (m.gen + 1).toNat m.seed m.sec), (3, beB 8 m.lim.toNat)]
theorem packR_eq (m : SM) : packR m = pkH m ++ (nSrt m.names).map nr ++ [(2, [])] := rfl
theorem pkH_le {m : SM} (h1 : m.seed.length ≤ 64) (h2 : ∀ s, m.sec = some s → s.length ≤ 64) : ∀ r ∈ pkH m, r.2.length ≤ 200 := fun r hr => by
  rcases List.mem_cons.mp hr with rfl | hr
  · exact bbody_le h1 h2
  rcases List.mem_cons.mp hr with rfl | hr
  · show (beB 8 m.lim.toNat).length ≤ 200
    rw [beB_len]
    decide
  cases hr
theorem nr_le {l : Nm} {sz : Nat} (hs : sz ≤ 64) (h : ∀ n ∈ l, nameOk n.1 = true ∧ n.2.length = sz ∧ isBytes n.2) (i : Nat) : ∀ r ∈ ((nSrt l).take i).map nr, r.2.length ≤ 200 := fun r hr => by
  obtain ⟨n, hn, rfl⟩ := List.mem_map.mp hr
  obtain ⟨h1, h2, _⟩ := h n (nSrt_mem (List.mem_of_mem_take hn))
  have := nameOk_le h1
  show (kbody n.1 n.2).length ≤ 200
  rw [kbody_len]
  omega
theorem pk_len {m : SM} (h1 : m.seed.length ≤ 64) (h2 : ∀ s, m.sec = some s → s.length ≤ 64) (hs : m.sz ≤ 64) (h : ∀ n ∈ m.names, nameOk n.1 = true ∧ n.2.length = m.sz ∧ isBytes n.2) (hf : m.names.length < 64) (i : Nat) :
    (enc (pkH m ++ ((nSrt m.names).take i).map nr)).length ≤ 13936 := by
  have := enc_mul (rs := pkH m ++ ((nSrt m.names).take i).map nr) (n := 200) fun r hr => by
    rcases List.mem_append.mp hr with q | q
    · exact pkH_le h1 h2 r q
    · exact nr_le hs h i r q
  have l2 : (pkH m ++ ((nSrt m.names).take i).map nr).length ≤ 66 := by
    rw [List.length_append, List.length_map]
    have := List.length_take_le' i (nSrt m.names)
    rw [nSrt_len] at this
    show 2 + _ ≤ 66
    omega
  omega
theorem pack_same (m : SM) (d : AM) : ∃ b g, (m.pack d).1 = { m with bank := b, gen := g } := by
  unfold SM.pack
  split
  · exact ⟨m.bank, m.gen, rfl⟩
  · split
    · exact ⟨m.bank, m.gen, rfl⟩
    · split
      · exact ⟨m.bank, m.gen, rfl⟩
      · exact ⟨_, _, rfl⟩
theorem keepR_same (m : SM) (d : AM) (k : Int) (x : List Int) : ∃ b g, (m.keepR d k x).1 = { m with bank := b, gen := g } := by
  unfold SM.keepR
  split
  · split
    · exact pack_same m d
    · split
      · exact pack_same m d
      · exact pack_same m d
  · exact ⟨m.bank, m.gen, rfl⟩
/-! ## on the heap -/
def SuX (K : PySem.W.Frag) (sz : Nat) (H : Hp) (su : Addr) : Prop := ∃ C dx fs, H su = some (.ins C dx fs) ∧ Cls K C ∧ NoAttr K C "key_size" ∧ fs.lookup ("key_size" : Str) = some (.int (sz : Int))
theorem SuX.mono {K : PySem.W.Frag} {sz : Nat} {H H' : Hp} {su : Addr} (s : Same H H') (h : SuX K sz H su) : SuX K sz H' su := by
  obtain ⟨C, dx, fs, e, r⟩ := h
  exact ⟨C, dx, fs, s _ _ e, r⟩
structure SA where
  s : Addr
  sx : Addr
  su : Addr
  d : Addr
  nm : Addr
  sd : Addr
  sc : V
def sF9 (a : SA) (m : SM) : List (Str × V) := [("_suite", .ref a.su), ("_disk", .ref a.d), ("_bank", .int (bi m.bank)), ("_crashes", .int m.cr), ("_names", .ref a.nm), ("_limit", .int m.lim), ("_generation", .int m.gen), ("_seed", .ref a.sd), ("_secret", a.sc)]
def sF (a : SA) (m : SM) : List (Str × V) := [("_suite", .ref a.su), ("_disk", .ref a.d), ("_bank", .int (bi m.bank)), ("_crashes", .int m.cr), ("_names", .ref a.nm), ("_limit", .int m.lim), ("_generation", .int m.gen), ("_seed", .ref a.sd), ("_secret", a.sc), ("_next", .int m.next)]
def SL (C : Addr) (a : SA) (m : SM) (kvs : List (Key × V)) : List (Addr × HO) := [(a.s, .ins C a.sx (sF a m)), (a.nm, .dK kvs)]
structure SB (K : PySem.W.Frag) (B : Hp) (a : SA) (m : SM) (kvs : List (Key × V)) : Prop where
  su : SuX K m.sz B a.su
  sd : B a.sd = some (isL m.seed)
  sc : OptV B a.sc m.sec
  en : Ents B kvs m.names
theorem SB.mono {K : PySem.W.Frag} {B B' : Hp} {a : SA} {m : SM} {kvs : List (Key × V)} (s : Same B B') (h : SB K B a m kvs) : SB K B' a m kvs := ⟨h.su.mono s, s _ _ h.sd, h.sc.mono s, h.en.mono s⟩
structure SM.ok (m : SM) : Prop where
  sz : m.sz ≤ 64
  seed : m.seed.length = m.sz ∧ isBytes m.seed
  sec : ∀ s, m.sec = some s → s.length = m.sz ∧ isBytes s
  names : ∀ n ∈ m.names, nameOk n.1 = true ∧ n.2.length = m.sz ∧ isBytes n.2
  nd : (m.names.map (·.1)).Nodup
  few : m.names.length < 64
  gen : 0 ≤ m.gen ∧ m.gen + 1 < 4294967296
  lim : 0 ≤ m.lim ∧ m.lim + 16 < 18446744073709551600
def StartV (B : Hp) (v : V) : Option Start → Prop
  | none => v = .non
  | some st => ∃ t a u, v = .ref t ∧ B t = some (.tup [.int st.1, .ref a, u]) ∧ B a = some (isL st.2.1) ∧ OptV B u st.2.2
def KeyV (B : Hp) (v : V) : Option (Str × List Int) → Prop
  | none => v = .non
  | some p => ∃ t a, v = .ref t ∧ B t = some (.tup [.str p.1, .ref a]) ∧ B a = some (isL p.2)
def NameV (B : Hp) (v : V) (p : Str × List Int) : Prop := ∃ t a, v = .ref t ∧ B t = some (.tup [.str p.1, .ref a]) ∧ B a = some (isL p.2)
theorem NameV.mono {B B' : Hp} (s : Same B B') {v : V} {r : Str × List Int} (h : NameV B v r) : NameV B' v r := by
  obtain ⟨t, a, e, h1, h2⟩ := h
  exact ⟨t, a, e, s _ _ h1, s _ _ h2⟩
/-! ## data -/
def sh (n : Nat) (d : PyData) : Prop := d.canLay0 = true ∧ d.depth ≤ n
theorem shaped_of {n : Nat} {d : PyData} (h : sh n d) (hn : n ≤ 64) : SeqAt.shaped d = true := by
  unfold SeqAt.shaped
  rw [h.1, decide_eq_true (Nat.le_trans h.2 hn)]
  rfl
theorem sh_all {n : Nat} : ∀ {ds : List PyData}, (∀ d ∈ ds, sh n d) → PyData.canLayAll0 ds = true ∧ PyData.depthAll ds ≤ n
  | [], _ => ⟨rfl, Nat.zero_le _⟩
  | d :: ds, h => by
    obtain ⟨h1, h2⟩ := sh_all fun e he => h e (List.mem_cons_of_mem _ he)
    obtain ⟨g1, g2⟩ := h d (List.mem_cons_self ..)
    refine ⟨?_, ?_⟩
    · show (PyData.canLay0 d && PyData.canLayAll0 ds) = true
      rw [g1, h1]
      rfl
    · show max (PyData.depth d) (PyData.depthAll ds) ≤ n
      omega
theorem sh_list {n : Nat} {ds : List PyData} (h : ∀ d ∈ ds, sh n d) : sh (n + 1) (.list ds) := ⟨(sh_all h).1, by show PyData.depthAll ds + 1 ≤ n + 1; have := (sh_all h).2; omega⟩
theorem sh_tuple {n : Nat} {ds : List PyData} (h : ∀ d ∈ ds, sh n d) : sh (n + 1) (.tuple ds) := ⟨(sh_all h).1, by show PyData.depthAll ds + 1 ≤ n + 1; have := (sh_all h).2; omega⟩
theorem sh_int {n : Nat} (i : Int) : sh n (.int i) := ⟨rfl, Nat.zero_le _⟩
theorem sh_non {n : Nat} : sh n .none := ⟨rfl, Nat.zero_le _⟩
theorem sh_ints (l : List Int) : sh 1 (dInts l) := sh_list fun d hd => by
  obtain ⟨i, _, rfl⟩ := List.mem_map.mp hd
  exact sh_int i
theorem sh.mono {n m : Nat} {d : PyData} (h : sh n d) (k : n ≤ m) : sh m d := ⟨h.1, Nat.le_trans h.2 k⟩
theorem eqvAll_map {α : Type} [DecidableEq α] {f : α → PyData} (hf : ∀ a b, PyData.eqv (f a) (f b) = decide (a = b)) : ∀ l k : List α, PyData.eqvAll (l.map f) (k.map f) = decide (l = k)
  | [], [] => rfl
  | [], j :: k => by
    show false = _
    rw [decide_eq_false (by simp)]
  | i :: l, [] => by
    show false = _
    rw [decide_eq_false (by simp)]
  | i :: l, j :: k => by
    show (PyData.eqv (f i) (f j) && PyData.eqvAll (l.map f) (k.map f)) = _
    rw [eqvAll_map hf l k, hf, ← Bool.decide_and]
    exact decide_eq_decide.mpr (by simp)
def recD (r : Rc) : PyData := .tuple [.int r.1, dInts r.2]
theorem sh_rec (r : Rc) : sh 2 (recD r) := sh_tuple fun d hd => by
  rcases List.mem_cons.mp hd with rfl | hd
  · exact sh_int _
  rcases List.mem_cons.mp hd with rfl | hd
  · exact sh_ints _
  cases hd
theorem eqv_rec (a b : Rc) : PyData.eqv (recD a) (recD b) = decide (a = b) := by
  show ((a.1 == b.1) && (PyData.eqv (dInts a.2) (dInts b.2) && true)) = _
  rw [eqD_ints, Bool.and_true, show (a.1 == b.1) = decide (a.1 = b.1) from rfl, ← Bool.decide_and]
  exact decide_eq_decide.mpr ⟨fun h => Prod.ext h.1 h.2, fun h => by rw [h]; exact ⟨rfl, rfl⟩⟩
theorem dp_rec {K : PySem.W.Frag} {H : Hp} {v : V} {r : Rc} (h : RecV H v r) : Dp K H v (recD r) := by
  obtain ⟨t, a, rfl, h1, h2⟩ := h
  exact .tup (sqT_of h1) (.cons (.int _) (.cons (dp_ints (sqL_of h2)) .nil))
theorem dpAll_rec {K : PySem.W.Frag} {H : Hp} : ∀ {us : List V} {rs : List Rc}, Paired (RecV H) us rs → DpAll K H us (rs.map recD)
  | _, _, .nil => .nil
  | _, _, .cons h t => .cons (dp_rec h) (dpAll_rec t)
theorem sh_recs (rs : List Rc) : sh 3 (.list (rs.map recD)) := sh_list fun d hd => by
  obtain ⟨r, _, rfl⟩ := List.mem_map.mp hd
  exact sh_rec r
theorem any_rec (rs : List Rc) (q : Rc) : ((rs.map recD).any fun z => PyData.eqv z (recD q)) = decide (q ∈ rs) := by
  rw [List.any_map, Bool.eq_iff_iff, List.any_eq_true, decide_eq_true_eq]
  constructor
  · rintro ⟨r, hr, e⟩
    have e' : PyData.eqv (recD r) (recD q) = true := e
    rw [eqv_rec, decide_eq_true_eq] at e'
    exact e' ▸ hr
  · intro h
    refine ⟨q, h, ?_⟩
    show PyData.eqv (recD q) (recD q) = true
    rw [eqv_rec, decide_eq_true_eq]
/-! ## promises -/
def spNever (n : Nat) : Sp := fun vs H Q _ => False
def spCheckKey (K : PySem.W.Frag) (X : Xs) : Sp := fun vs H Q E => ∃ (su a : Addr) (ns : List Int) (sz : Nat), vs = [.ref su, .ref a] ∧ SuX K sz H su ∧ SqL K H a (ns.map V.int) ∧ (ns.length ≠ sz → E (.ref X.r) none H) ∧ (ns.length = sz → Q .non H)
def spBeginBody (K : PySem.W.Frag) : Sp := fun vs H Q _ => ∃ (g : Int) (sd : Addr) (u : V) (seed : List Int) (sec : Option (List Int)) (B : Hp), vs = [.int g, .ref sd, u] ∧ Wd B [] H ∧ 0 ≤ g ∧ g < 4294967296 ∧ seed.length ≤ 64 ∧ (∀ s, sec = some s → s.length ≤ 64) ∧
  B sd = some (isL seed) ∧ OptV B u sec ∧ ∀ p H', Wd H [(p, isL (bbody g.toNat seed sec))] H' → Q (.ref p) H'
def spKeyBody (K : PySem.W.Frag) : Sp := fun vs H Q _ => ∃ (x : Str) (a : Addr) (k : List Int), vs = [.str x, .ref a] ∧ nameOk x = true ∧ k.length ≤ 64 ∧ H a = some (isL k) ∧ ∀ p H', Wd H [(p, isL (kbody x k))] H' → Q (.ref p) H'
def spReadBegin (K : PySem.W.Frag) : Sp := fun vs H Q _ => ∃ (su a : Addr) (b : List Int) (sz : Nat) (B : Hp) (M : List (Addr × HO)), vs = [.ref su, .ref a] ∧ Wd B M H ∧ SuX K sz B su ∧ B a = some (isL b) ∧ isBytes b ∧
  ∀ B' H' v, Same B B' → Wd B' M H' → StartV B' v (rbegin sz b) → Q v H'
def spReadKey (K : PySem.W.Frag) : Sp := fun vs H Q _ => ∃ (su a : Addr) (b : List Int) (sz : Nat) (B : Hp) (M : List (Addr × HO)), vs = [.ref su, .ref a] ∧ Wd B M H ∧ SuX K sz B su ∧ B a = some (isL b) ∧ isBytes b ∧ b.length ≤ 100000 ∧
  ∀ B' H' v, Same B B' → Wd B' M H' → KeyV B' v (rkey sz b) → Q v H'
def spBankStart (K : PySem.W.Frag) (CD : Addr) : Sp := fun vs H Q _ => ∃ (su d : Addr) (t : DT) (ar : Bool) (de : Int) (m : AM) (B : Hp) (M : List (Addr × HO)) (b : Bool) (sz : Nat), vs = [.ref su, .ref d, .int (bi b)] ∧ m.ok ∧ m.by ∧ SuX K sz B su ∧ Wd B (DL CD d t ar de m ++ M) H ∧
  ∀ B' H' v, Same B B' → Wd B' (DL CD d t ar de m ++ M) H' → StartV B' v (bstart sz (m.con b)) → Q v H'
def spBest (K : PySem.W.Frag) (CD : Addr) : Sp := fun vs H Q _ => ∃ (su d : Addr) (t : DT) (ar : Bool) (de : Int) (m : AM) (B : Hp) (M : List (Addr × HO)) (sz : Nat), vs = [.ref su, .ref d] ∧ m.ok ∧ m.by ∧ SuX K sz B su ∧ Wd B (DL CD d t ar de m ++ M) H ∧
  ∀ B' H', Same B B' → Wd B' (DL CD d t ar de m ++ M) H' → Q (.int (encBk (best sz (m.con false) (m.con true)))) H'
def spPrepare (K : PySem.W.Frag) (CD : Addr) (X : Xs) : Sp := fun vs H Q E => ∃ (su d sd : Addr) (u : V) (seed : List Int) (sec : Option (List Int)) (t : DT) (ar : Bool) (de : Int) (m : AM) (B : Hp) (M : List (Addr × HO)) (sz : Nat), vs = [.ref su, .ref d, .ref sd, u] ∧ m.ok ∧ m.by ∧ sz ≤ 64 ∧ SuX K sz B su ∧
  B sd = some (isL seed) ∧ OptV B u sec ∧ isBytes seed ∧ (∀ s, sec = some s → isBytes s) ∧ Rel ar de m ∧ Wd B (DL CD d t ar de m ++ M) H ∧
  ∀ t' ar' de' B' H', Same B B' → Rel ar' de' (m.prep sz seed sec).1 → Wd B' (DL CD d t' ar' de' (m.prep sz seed sec).1 ++ M) H' → oc X E H' (Q .non H') (m.prep sz seed sec).2
def spTakeRec (K : PySem.W.Frag) (CS : Addr) : Sp := fun vs H Q _ => ∃ (a : SA) (m : SM) (kvs : List (Key × V)) (k : Int) (b : Addr) (body : List Int) (B : Hp) (M : List (Addr × HO)), vs = [.ref a.s, .int k, .ref b] ∧ SuX K m.sz B a.su ∧ Ents B kvs m.names ∧ kvs.length ≤ 100000 ∧
  B b = some (isL body) ∧ isBytes body ∧ body.length ≤ 100000 ∧ Wd B ((a.s, .ins CS a.sx (sF9 a m)) :: (a.nm, .dK kvs) :: M) H ∧
  ∀ B' kvs' H', Same B B' → Ents B' kvs' (takeN m.sz m.names (k, body)) → kvs'.length ≤ kvs.length + 1 → Wd B' ((a.s, .ins CS a.sx (sF9 a { m with lim := takeL m.lim (k, body), names := takeN m.sz m.names (k, body) })) :: (a.nm, .dK kvs') :: M) H' → Q .non H'
def spStore (K : PySem.W.Frag) (CS CD : Addr) (X : Xs) : Sp := fun vs H Q E => ∃ (s sx su d : Addr) (t : DT) (ar : Bool) (de : Int) (m : AM) (B : Hp) (M : List (Addr × HO)) (sz : Nat), vs = [.ref s, .ref su, .ref d] ∧ m.ok ∧ m.by ∧ SuX K sz B su ∧ Rel ar de m ∧ Wd B ((s, .ins CS sx []) :: (DL CD d t ar de m ++ M)) H ∧
  ((openS sz m).2.2 ≠ 0 → ∀ t' ar' de' B' H', Same B B' → Rel ar' de' (openS sz m).2.1 → Wd B' (DL CD d t' ar' de' (openS sz m).2.1 ++ M) H' → oc X E H' True (openS sz m).2.2) ∧
  (∀ n, (openS sz m).1 = some n → (openS sz m).2.2 = 0 → ∀ a kvs t' ar' de' B' H', a.s = s → a.su = su → a.d = d → Same B B' → Rel ar' de' (openS sz m).2.1 → SB K B' a n kvs → Wd B' (SL CS a n kvs ++ (DL CD d t' ar' de' (openS sz m).2.1 ++ M)) H' → Q .non H')
/-- a store on a disk: what every method of it is given -/
structure Stt (K : PySem.W.Frag) (CS CD : Addr) (a : SA) (m : SM) (kvs : List (Key × V)) (t : DT) (ar : Bool) (de : Int) (d : AM) (B : Hp) (M : List (Addr × HO)) (H : Hp) : Prop where
  sb : SB K B a m kvs
  ok : m.ok
  dk : d.ok
  by' : d.by
  rel : Rel ar de d
  wd : Wd B (SL CS a m kvs ++ (DL CD a.d t ar de d ++ M)) H
def spCheckTime (CS CD : Addr) (X : Xs) : Sp := fun vs H Q E => ∃ (a : SA) (m : SM) (kvs : List (Key × V)) (t : DT) (ar : Bool) (de : Int) (d : AM) (B : Hp) (M : List (Addr × HO)), vs = [.ref a.s] ∧ Wd B (SL CS a m kvs ++ (DL CD a.d t ar de d ++ M)) H ∧ (d.cr ≠ m.cr → E (.ref X.o) none H) ∧ (d.cr = m.cr → Q .non H)
def spNames (K : PySem.W.Frag) (CS : Addr) : Sp := fun vs H Q _ => ∃ (a : SA) (m : SM) (kvs : List (Key × V)) (B : Hp) (M : List (Addr × HO)), vs = [.ref a.s] ∧ Ents B kvs m.names ∧ m.names.length < 64 ∧ Wd B (SL CS a m kvs ++ M) H ∧
  ∀ p us B' H', Same B B' → B' p = some (.lst us) → Paired (NameV B') us (nSrt m.names) → Wd B' (SL CS a m kvs ++ M) H' → Q (.ref p) H'
def spPack (K : PySem.W.Frag) (CS CD : Addr) (X : Xs) : Sp := fun vs H Q E => ∃ (a : SA) (m : SM) (kvs : List (Key × V)) (t : DT) (ar : Bool) (de : Int) (d : AM) (B : Hp) (M : List (Addr × HO)), vs = [.ref a.s] ∧ Stt K CS CD a m kvs t ar de d B M H ∧
  ∀ t' ar' de' H', Rel ar' de' (m.pack d).2.1 → Wd B (SL CS a (m.pack d).1 kvs ++ (DL CD a.d t' ar' de' (m.pack d).2.1 ++ M)) H' → oc X E H' (Q .non H') (m.pack d).2.2
def spKeepRec (K : PySem.W.Frag) (CS CD : Addr) (X : Xs) : Sp := fun vs H Q E => ∃ (a : SA) (m : SM) (kvs : List (Key × V)) (t : DT) (ar : Bool) (de : Int) (d : AM) (B : Hp) (M : List (Addr × HO)) (k : Int) (b : Addr) (body : List Int), vs = [.ref a.s, .int k, .ref b] ∧ Stt K CS CD a m kvs t ar de d B M H ∧
  1 ≤ k ∧ k ≤ 5 ∧ body.length ≤ 65535 ∧ isBytes body ∧ SqL K H b (body.map V.int) ∧
  ∀ t' ar' de' H', Rel ar' de' (m.keepR d k body).2.1 → Wd B (SL CS a (m.keepR d k body).1 kvs ++ (DL CD a.d t' ar' de' (m.keepR d k body).2.1 ++ M)) H' → oc X E H' (Q .non H') (m.keepR d k body).2.2
def spNext (K : PySem.W.Frag) (CS CD : Addr) (X : Xs) : Sp := fun vs H Q E => ∃ (a : SA) (m : SM) (kvs : List (Key × V)) (t : DT) (ar : Bool) (de : Int) (d : AM) (B : Hp) (M : List (Addr × HO)), vs = [.ref a.s] ∧ Stt K CS CD a m kvs t ar de d B M H ∧
  ∀ t' ar' de' H', Rel ar' de' (m.take d).2.1 → Wd B (SL CS a (m.take d).1 kvs ++ (DL CD a.d t' ar' de' (m.take d).2.1 ++ M)) H' → oc X E H' (Q (.int m.next) H') (m.take d).2.2
def spCheckName (K : PySem.W.Frag) (CS CU : Addr) (X : Xs) : Sp := fun vs H Q E => ∃ (a : SA) (m : SM) (x : Str) (k : Addr) (key : List Int) (dx : Addr) (B : Hp) (M : List (Addr × HO)), vs = [.ref a.s, .str x, .ref k] ∧ Wd B ((a.s, .ins CS a.sx (sF a m)) :: M) H ∧ m.sz = 16 ∧ B a.su = some (.ins CU dx [("name", .str "127_Mix_Mix"), ("key_size", .int 16), ("tag_size", .int 8), ("digest_size", .int 16), ("block_size", .int 16)]) ∧
  x.length ≤ 100000 ∧ H k = some (isL key) ∧ isBytes key ∧ ∀ H', Wd B ((a.s, .ins CS a.sx (sF a m)) :: M) H' → oc X E H' (Q .non H') (badN m.sz x key)
/-! ## the small suite -/
def suF : List (Str × V) := [("name", .str "127_Mix_Mix"), ("key_size", .int 16), ("tag_size", .int 8), ("digest_size", .int 16), ("block_size", .int 16)]
def SuiteAt (C : Addr) (H : Hp) (su : Addr) : Prop := ∃ dx, H su = some (.ins C dx suF)
theorem SuiteAt.mono {C : Addr} {H H' : Hp} {su : Addr} (s : Same H H') (h : SuiteAt C H su) : SuiteAt C H' su := by
  obtain ⟨dx, e⟩ := h
  exact ⟨dx, s _ _ e⟩
def spEqual (K : PySem.W.Frag) : Sp := fun vs H Q _ => ∃ a b xs ys, vs = [.ref a, .ref b] ∧ SqL K H a (xs.map V.int) ∧ SqL K H b (ys.map V.int) ∧ isBytes xs ∧ isBytes ys ∧ ∀ H', Wd H [] H' → Q (.bl (decide (xs = ys))) H'
def spSmPow : Sp := fun vs H Q _ => ∃ b e, vs = [.int b, .int e] ∧ 0 ≤ b ∧ 0 ≤ e ∧ Q (.int (smPow b.toNat e.toNat : Nat)) H
def spSmExp (K : PySem.W.Frag) : Sp := fun vs H Q _ => ∃ (a : Addr) (ns : List Int), vs = [.ref a] ∧ SqL K H a (ns.map V.int) ∧ isBytes ns ∧ ∀ H', Wd H [] H' → Q (.int (pubE ns : Nat)) H'
def spSuInit (C : Addr) : Sp := fun vs H Q E => ∃ d dx B M, vs = [.ref d] ∧ Wd B ((d, .ins C dx []) :: M) H ∧ ∀ H', Wd B ((d, .ins C dx suF) :: M) H' → Q .non H'
def spPublic (K : PySem.W.Frag) (CS CR : Addr) : Sp := fun vs H Q E => ∃ (su a : Addr) (ns : List Int), vs = [.ref su, .ref a] ∧ SuiteAt CS H su ∧ SqL K H a (ns.map V.int) ∧ isBytes ns ∧ (ns.length ≠ 16 → E (.ref CR) none H) ∧ (ns.length = 16 → ∀ p H', Wd H [(p, isL (pubK ns))] H' → Q (.ref p) H')
def spIsWeak (K : PySem.W.Frag) (CS CR : Addr) : Sp := fun vs H Q E => ∃ (su a : Addr) (ns : List Int), vs = [.ref su, .ref a] ∧ SuiteAt CS H su ∧ SqL K H a (ns.map V.int) ∧ isBytes ns ∧ (ns.length ≠ 16 → E (.ref CR) none H) ∧ (ns.length = 16 → ∀ H', Wd H [] H' → Q (.bl (weak ns)) H')
/-- the store's suite is the small one -/
def SmX (C : Addr) (B : Hp) (a : SA) (m : SM) : Prop := m.sz = 16 ∧ SuiteAt C B a.su
def spKeepName (K : PySem.W.Frag) (CS CD CU : Addr) (X : Xs) : Sp := fun vs H Q E => ∃ (a : SA) (m : SM) (kvs : List (Key × V)) (t : DT) (ar : Bool) (de : Int) (d : AM) (B : Hp) (M : List (Addr × HO)) (x : Str) (k : Addr) (key : List Int), vs = [.ref a.s, .str x, .ref k] ∧ Stt K CS CD a m kvs t ar de d B M H ∧ SmX CU B a m ∧
  x.length ≤ 100000 ∧ B k = some (isL key) ∧ isBytes key ∧
  ∀ kvs' t' ar' de' B' H', Same B B' → Rel ar' de' (m.keepN d x key).2.1 → SB K B' a (m.keepN d x key).1 kvs' → Wd B' (SL CS a (m.keepN d x key).1 kvs' ++ (DL CD a.d t' ar' de' (m.keepN d x key).2.1 ++ M)) H' → oc X E H' (Q (.bl (m.keepN d x key).2.2.2) H') (m.keepN d x key).2.2.1
def spRelease (K : PySem.W.Frag) (CS CD CU : Addr) (X : Xs) : Sp := fun vs H Q E => ∃ (a : SA) (m : SM) (kvs : List (Key × V)) (t : DT) (ar : Bool) (de : Int) (d : AM) (B : Hp) (M : List (Addr × HO)) (x : Str) (k : Addr) (key : List Int), vs = [.ref a.s, .str x, .ref k] ∧ Stt K CS CD a m kvs t ar de d B M H ∧ SmX CU B a m ∧
  x.length ≤ 100000 ∧ B k = some (isL key) ∧ isBytes key ∧
  ∀ kvs' t' ar' de' B' H', Same B B' → Rel ar' de' (m.rel d x key).2.1 → SB K B' a (m.rel d x key).1 kvs' → Wd B' (SL CS a (m.rel d x key).1 kvs' ++ (DL CD a.d t' ar' de' (m.rel d x key).2.1 ++ M)) H' → oc X E H' (Q .non H') (m.rel d x key).2.2
def spNameKey (K : PySem.W.Frag) (CS : Addr) : Sp := fun vs H Q _ => ∃ (a : SA) (m : SM) (kvs : List (Key × V)) (B : Hp) (M : List (Addr × HO)) (x : Str), vs = [.ref a.s, .str x] ∧ Ents B kvs m.names ∧ Wd B (SL CS a m kvs ++ M) H ∧
  ∀ v B' H', Same B B' → Wd B' (SL CS a m kvs ++ M) H' → OptV B' v (nGet m.names x) → Q v H'
def OptT (B : Hp) (v : V) : Option (List Int) → Prop
  | none => v = .non
  | some l => ∃ p, v = .ref p ∧ B p = some (.tup (l.map V.int))
def NameT (B : Hp) (v : V) (p : Str × List Int) : Prop := ∃ t a, v = .ref t ∧ B t = some (.tup [.str p.1, .ref a]) ∧ B a = some (.tup (p.2.map V.int))
theorem NameT.mono {B B' : Hp} (s : Same B B') {v : V} {r : Str × List Int} (h : NameT B v r) : NameT B' v r := by
  obtain ⟨t, a, e, h1, h2⟩ := h
  exact ⟨t, a, e, s _ _ h1, s _ _ h2⟩
def spState (K : PySem.W.Frag) (CS : Addr) : Sp := fun vs H Q _ => ∃ (a : SA) (m : SM) (kvs : List (Key × V)) (B : Hp) (M : List (Addr × HO)), vs = [.ref a.s] ∧ SB K B a m kvs ∧ m.names.length < 64 ∧ Wd B (SL CS a m kvs ++ M) H ∧
  ∀ t p1 v2 p3 us B' H', Same B B' → B' t = some (.tup [.int m.gen, .ref p1, v2, .ref p3, .int m.next, .int m.lim]) → B' p1 = some (.tup (m.seed.map V.int)) → OptT B' v2 m.sec → B' p3 = some (.tup us) → Paired (NameT B') us (nSrt m.names) → Wd B' (SL CS a m kvs ++ M) H' → Q (.ref t) H'
theorem SB.keepR {K : PySem.W.Frag} {B : Hp} {a : SA} {m : SM} {kvs : List (Key × V)} (h : SB K B a m kvs) (d : AM) (k : Int) (x : List Int) : SB K B a (m.keepR d k x).1 kvs := by
  obtain ⟨b, g, e⟩ := keepR_same m d k x
  rw [e]
  exact ⟨h.su, h.sd, h.sc, h.en⟩
theorem nGet_eqv (o : Option (List Int)) (key : List Int) : PyData.eqv (match o with
    | none => PyData.none
    | some l => dInts l) (dInts key) = decide (o = some key) := by
  cases o with
  | none => rfl
  | some l =>
    show PyData.eqv (dInts l) (dInts key) = _
    rw [eqD_ints]
    exact decide_eq_decide.mpr ⟨fun h => by rw [h], fun h => Option.some.inj h⟩
theorem name_dp {K : PySem.W.Frag} {B : Hp} {kvs : List (Key × V)} {l : Nm} {x : Str} (h : Ents B kvs l) : Dp K B ((valV kvs (.inr x)).getD .non) (match nGet l x with
    | none => PyData.none
    | some l => dInts l) ∧ SeqAt.shaped (match nGet l x with
    | none => PyData.none
    | some l => dInts l) = true ∧ (valV kvs (.inr x)).isSome = (nGet l x).isSome := by
  rcases h.get (x := x) with ⟨q1, q2⟩ | ⟨q, key, q1, q2, q3, _⟩
  · rw [q1, q2]
    exact ⟨.non, rfl, rfl⟩
  · rw [q1, q2]
    exact ⟨dp_ints (sqL_of q3), shaped_ints _, rfl⟩
theorem kbody_bytes {x : Str} {k : List Int} (h : nameOk x = true) (hk : isBytes k) : isBytes (kbody x k) := by
  have h32 := nameOk_le h
  intro y hy
  rcases List.mem_cons.mp hy with rfl | hy
  · omega
  rcases List.mem_append.mp hy with hy | hy
  · unfold codes at hy
    obtain ⟨c, hc, rfl⟩ := List.mem_map.mp hy
    unfold nameOk at h
    rw [Bool.and_eq_true] at h
    have := List.all_eq_true.mp h.2 c hc
    have hm : c ∈ sgn := of_decide_eq_true this
    have hall : ∀ z ∈ sgn, z ≤ 255 := by decide +kernel
    have := hall c hm
    omega
  · exact hk y hy
end Hk

/-! a cut record with zeros behind it is no record -/
namespace Hk
open PySem PySem.Spec PyProof.Rows
open L2 hiding Takes XE CX takes_of passes_call MkP PMk ps_raise mk_of ps_try_as passAt pmk_own
open L2N (Takes XE CX takes_of passes_call MkP PMk ps_raise mk_of ps_try_as passAt pmk_own)
theorem getD_zero {x : List Int} {z i : Nat} (h : x.length ≤ i) : (x ++ List.replicate z 0).getD i 0 = 0 := by
  rw [List.getD_eq_getElem?_getD, List.getElem?_append_right h, List.getElem?_replicate]
  split <;> rfl
theorem recEnd_cut (p : List Int) (k : Int) (b : List Int) (n z : Nat) (h5 : b.length ≤ 65535) (hb : isBytes b) (hk : 1 ≤ k) (hk5 : k ≤ 5) (hn : n < (recB k b).length) : recEnd (p ++ ((recB k b).take n ++ List.replicate z 0)) p.length = none := by
  obtain ⟨l, hl⟩ : ∃ l, l = p ++ ((recB k b).take n ++ List.replicate z 0) := ⟨_, rfl⟩
  rw [← hl]
  rw [recB_len] at hn
  have zero : ∀ i, p.length + n ≤ i → l.getD i 0 = 0 := fun i hi => by
    have e : l = (p ++ (recB k b).take n) ++ List.replicate z 0 := by rw [hl, List.append_assoc]
    rw [e]
    refine getD_zero ?_
    rw [List.length_append, List.length_take, recB_len]
    omega
  have key : ∀ q : Nat, p.length + n ≤ q + 4 → (if l.length < q + 5 ∨ l.getD (q + 4) 0 ≠ 255 then (none : Option Nat) else if beV (seg l q (q + 4)) ≠ bsum (seg l p.length q) then none else some (q + 5)) = none := fun q hq => by
    rw [if_pos (.inr (by rw [zero _ hq]; decide))]
  unfold recEnd
  split
  · rfl
  · split
    · rfl
    · dsimp only
      refine key _ ?_
      by_cases c : n < 8
      · omega
      · have e : seg l (p.length + 1) (p.length + 3) = beB 2 b.length := by
          have e0 : recB k b = (k :: beB 2 b.length) ++ (b ++ (beB 4 (bsum (recH k b)).toNat ++ [255])) := by
            show recH k b ++ _ = _
            unfold recH
            rw [List.cons_append, List.append_assoc]
            rfl
          have l3 : (k :: beB 2 b.length).length = 3 := by rw [List.length_cons, beB_len]
          have et : (recB k b).take n = (k :: beB 2 b.length) ++ (b ++ (beB 4 (bsum (recH k b)).toNat ++ [255])).take (n - 3) := by
            rw [e0, List.take_append, List.take_of_length_le (by omega), l3]
          refine seg_mid (x := p ++ [k]) (z := (b ++ (beB 4 (bsum (recH k b)).toNat ++ [255])).take (n - 3) ++ List.replicate z 0) ?_ (by simp) (by rw [List.length_append, beB_len]; rfl)
          rw [hl, et]
          simp [List.append_assoc]
        rw [e, beV_beB 2 _ (by show b.length < 256 ^ 2; have : (256 : Nat) ^ 2 = 65536 := by decide
                               omega)]
        omega
theorem cut_parse : ∀ (rs : List Rc) (n z : Nat), (∀ r ∈ rs, okR r) → n < (enc rs).length → ∃ j, j < rs.length ∧ ∃ tail, (enc rs).take n ++ List.replicate z 0 = enc (rs.take j) ++ tail ∧ ∀ p : List Int, recEnd (p ++ tail) p.length = none
  | [], n, z, _, hn => absurd hn (Nat.not_lt_zero _)
  | r :: rs, n, z, h, hn => by
    obtain ⟨h1, h5, hl, hb⟩ := h r (List.mem_cons_self ..)
    by_cases c : n < (recB r.1 r.2).length
    · refine ⟨0, Nat.succ_pos _, (recB r.1 r.2).take n ++ List.replicate z 0, ?_, fun p => recEnd_cut p r.1 r.2 n z hl hb h1 h5 c⟩
      rw [enc_cons, List.take_append_of_le_length (Nat.le_of_lt c)]
      rfl
    · have hn' : n - (recB r.1 r.2).length < (enc rs).length := by
        rw [enc_cons, List.length_append] at hn
        omega
      obtain ⟨j, hj, tail, e, ht⟩ := cut_parse rs (n - (recB r.1 r.2).length) z (fun q hq => h q (List.mem_cons_of_mem _ hq)) hn'
      refine ⟨j + 1, Nat.succ_lt_succ hj, tail, ?_, ht⟩
      rw [enc_cons, List.take_append, List.take_of_length_le (by omega), List.append_assoc, e, List.take_succ_cons, enc_cons, List.append_assoc]
theorem recs_tail (rs : List Rc) (tail : List Int) (h : ∀ r ∈ rs, okR r) (ht : ∀ p : List Int, recEnd (p ++ tail) p.length = none) : recs (enc rs ++ tail) = (rs, (enc rs).length) := by
  have hz : recEnd ([] ++ (enc rs ++ tail)) (([] : List Int).length + (enc rs).length) = none := by
    rw [List.nil_append, List.length_nil, Nat.zero_add]
    exact ht (enc rs)
  have hs := enc_le rs
  by_cases c : rs.length < (enc rs ++ tail).length
  · have := recsF_cat tail rs [] (enc rs ++ tail).length h c hz
    rw [List.nil_append, List.length_nil, Nat.zero_add] at this
    exact this
  · rw [List.length_append] at c
    cases rs with
    | nil =>
      have : tail = [] := by
        cases tail with
        | nil => rfl
        | cons x t => exact absurd (show 0 < 0 + (t.length + 1) by omega) c
      subst this
      rfl
    | cons r rs =>
      have := enc_le rs
      rw [enc_cons, List.length_append, recB_len, List.length_cons] at c
      omega
theorem bnOk_codes {x : Str} (h : nameOk x = true) : bnOk (codes x) = true := by
  unfold nameOk at h
  simp only [Bool.and_eq_true, decide_eq_true_eq] at h
  obtain ⟨⟨h1, h2⟩, h3⟩ := h
  unfold bnOk
  simp only [Bool.and_eq_true, decide_eq_true_eq]
  rw [codes_len]
  refine ⟨⟨h1, h2⟩, List.all_eq_true.mpr fun y hy => ?_⟩
  unfold codes at hy
  obtain ⟨c, hc, rfl⟩ := List.mem_map.mp hy
  have := List.all_eq_true.mp h3 c hc
  have hm : c ∈ sgn := of_decide_eq_true this
  unfold sgI
  exact List.any_eq_true.mpr ⟨c, hm, decide_eq_true rfl⟩
theorem bnOf_codes (x : Str) : bnOf (codes x) = x := by
  unfold bnOf codes
  rw [List.map_map]
  have : (x.cps.toList.map (Int.toNat ∘ fun c => ((c : Nat) : Int))) = x.cps.toList := by
    conv => rhs; rw [← List.map_id x.cps.toList]
    exact List.map_congr_left fun c _ => rfl
  rw [this]
theorem rkey_kbody {x : Str} {k : List Int} {sz : Nat} (h : nameOk x = true) (hk : k.length = sz) : rkey sz (kbody x k) = some (x, k) := by
  have g0 : (kbody x k).getD 0 0 = (x.length : Int) := rfl
  have s1 : seg (kbody x k) 1 (1 + x.length) = codes x := seg_mid (x := [(x.length : Int)]) (z := k) rfl rfl (by rw [codes_len]; rfl)
  have d1 : (kbody x k).drop (1 + x.length) = k := by
    have e : kbody x k = ([(x.length : Int)] ++ codes x) ++ k := rfl
    have l : 1 + x.length = ([(x.length : Int)] ++ codes x).length := by
      rw [List.length_append, codes_len]
      rfl
    rw [e, l, List.drop_left]
  unfold rkey
  rw [if_neg (by rw [kbody_len]; omega), g0, Int.toNat_natCast, if_neg (by rw [kbody_len, hk]; exact fun z => z rfl), s1, if_pos (bnOk_codes h), bnOf_codes, d1]
theorem bstart_of {sz : Nat} {l : List Int} {rs : List Rc} {n : Nat} {r : Rc} {q : List Rc} {st : Start} (h : recs l = (rs, n)) (hr : rs = r :: q) (h1 : r.1 = 1) (h2 : ((2, []) : Rc) ∈ rs) (hb : rbegin sz r.2 = some st) : bstart sz l = some st := by
  unfold bstart
  rw [h, hr]
  rw [hr] at h2
  dsimp only
  rw [if_neg (fun z => z h1), if_neg (fun z => z h2), hb]
theorem bstart_no {sz : Nat} {l : List Int} {rs : List Rc} {n : Nat} (h : recs l = (rs, n)) (h2 : ((2, []) : Rc) ∉ rs) : bstart sz l = none := by
  unfold bstart
  rw [h]
  cases rs with
  | nil => rfl
  | cons r q =>
    dsimp only
    by_cases c : r.1 ≠ 1
    · rw [if_pos c]
    · rw [if_neg c, if_pos h2]
/-- keep or release, as the law's deed does it -/
def SM.deed (m : SM) (d : AM) (w : Int) (k : List Int) : SM × AM × Nat :=
  if w = 0 then
    if nGet m.names "peer" = none then ((m.keepN d "peer" k).1, (m.keepN d "peer" k).2.1, (m.keepN d "peer" k).2.2.1)
    else m.rel d "peer" k
  else m.pack d
def spTake62 (K : PySem.W.Frag) (CS CD : Addr) : Sp := fun vs H Q _ => ∃ (a : SA) (m : SM) (kvs : List (Key × V)) (t : DT) (ar : Bool) (de : Int) (d : AM) (B : Hp) (M : List (Addr × HO)) (nl : Addr) (ns : List Int) (old : Bool), vs = [.ref a.s, .ref nl, .bl old] ∧ Stt K CS CD a m kvs t ar de d B ((nl, isL ns) :: M) H ∧ ns.length ≤ 100000 ∧
  (old = true → (m.take d).2.2 = 2) ∧ (old = false → (m.take d).2.2 ≤ 1 ∧ 0 ≤ m.next ∧ ∀ y ∈ ns, y < m.next) ∧
  ∀ t' ar' de' H', Rel ar' de' (m.take d).2.1 → Wd B (SL CS a (m.take d).1 kvs ++ (DL CD a.d t' ar' de' (m.take d).2.1 ++ ((nl, isL (if (m.take d).2.2 = 0 then ns ++ [m.next] else ns)) :: M))) H' → Q (.bl true) H'
def spDeed62 (K : PySem.W.Frag) (CS CD CU : Addr) : Sp := fun vs H Q _ => ∃ (a : SA) (m : SM) (kvs : List (Key × V)) (t : DT) (ar : Bool) (de : Int) (d : AM) (B : Hp) (M : List (Addr × HO)) (w : Int) (k : Addr) (key : List Int) (old : Bool), vs = [.ref a.s, .int w, .ref k, .bl old] ∧ Stt K CS CD a m kvs t ar de d B M H ∧ SmX CU B a m ∧
  B k = some (isL key) ∧ isBytes key ∧ (old = true → (m.deed d w key).2.2 = 2) ∧ (old = false → (m.deed d w key).2.2 ≤ 1) ∧
  ∀ kvs' t' ar' de' B' H', Same B B' → Rel ar' de' (m.deed d w key).2.1 → SB K B' a (m.deed d w key).1 kvs' → Wd B' (SL CS a (m.deed d w key).1 kvs' ++ (DL CD a.d t' ar' de' (m.deed d w key).2.1 ++ M)) H' → Q (.bl true) H'
end Hk

namespace T60
open PySem PySem.Spec PyProof.Rows L2 Hk Mi
def encN : Option Nat → Int
  | none => -1
  | some e => e
theorem seg_bytes {l : List Int} (h : isBytes l) (a b : Nat) : isBytes (seg l a b) := fun y hy => h y (List.mem_of_mem_drop (List.mem_of_mem_take hy))
theorem beV_nn (l : List Int) (h : isBytes l) : 0 ≤ beV l := by
  have := (leV_bound l.reverse fun y hy => h y (List.mem_reverse.mp hy)).1
  unfold leV at this
  rw [List.reverse_reverse] at this
  exact this
def recD (rs : List (Int × List Int)) : List D := rs.map fun r => .tup [.int r.1, .lst .f (il r.2)]
theorem recD_snoc (rs : List (Int × List Int)) (k : Int) (b : List Int) : recD rs ++ [.tup [.int k, .lst .f (il b)]] = recD (rs ++ [(k, b)]) := by unfold recD; rw [List.map_append]; rfl
theorem recD_len (rs : List (Int × List Int)) : (recD rs).length = rs.length := List.length_map ..
theorem recD_frz (rs : List (Int × List Int)) : frzL (recD rs) = recD rs := by
  induction rs with
  | nil => rfl
  | cons r rs ih => show D.tup [.int r.1, .lst .f (il r.2)] :: frzL (recD rs) = _; rw [ih]; rfl
theorem recD_cp (rs : List (Int × List Int)) : cpL (recD rs) = true := by
  induction rs with
  | nil => rfl
  | cons r rs ih => exact ih
theorem recsF_few {l : List Int} : ∀ (n a : Nat), (recsF l n a).1.length ≤ n
  | 0, a => Nat.le_refl 0
  | n + 1, a => by
    show (match recEnd l a with
      | none => ([], a)
      | some e => ((l.getD a 0, seg l (a + 3) (e - 5)) :: (recsF l n e).1, (recsF l n e).2)).1.length ≤ n + 1
    cases recEnd l a with
    | none => exact Nat.zero_le _
    | some e => exact Nat.succ_le_succ (recsF_few n e)
def suN : List Str := ["name", "key_size", "tag_size", "digest_size", "block_size"]
def suD : List D := [.str "127_Mix_Mix", .int 16, .int 8, .int 16, .int 16]
theorem lk_ksz : look "key_size" suN suD = some (.int 16) := id rfl
def chD (z : Str) : List D := z.cps.toList.map fun c => .str ⟨#[c]⟩
theorem is_name_eq (wd : Option (List Ob)) (z : Str) (hz : z.length ≤ 100000) : F_is_name wd [.str z] = .ok (.bl (nameOk z)) [] wd := by
  unfold F_is_name m_is_name
  have i1 : dIsi "str" (.str z) = some (.bl true) := by rfl
  have l1 : dLen (.str z) = some (.int z.length) := by
    show (if z.length ≤ 16777216 then some (D.int z.length) else none) = _
    rw [if_pos (by omega)]
  have t1 : dItS (.str z) = some (chD z) := rfl
  by_cases c1 : z.length < 1
  · have d1 : (z.length : Int) < 1 := by omega
    have hn : nameOk z = false := by unfold nameOk; rw [decide_eq_false (by omega)]; rfl
    simp only [Mi.ev, ne_eq, not_true_eq_false, not_false_eq_true, eq_self, Int.natCast_zero, Int.reduceLT, Int.reduceLE, Int.reduceEq, Int.reduceAdd, Int.reduceSub, Int.reduceNeg, Int.reduceToNat, Int.cast_ofNat_Int, Int.zero_add, Option.map_some, Option.map_none, Option.bind_some, Option.bind_none, List.map_cons, List.map_nil, List.length_cons, List.length_nil, List.replicate, List.cons_append, List.nil_append, List.getElem?_cons_zero, List.getElem?_cons_succ, List.getElem?_nil, List.set_cons_zero, List.set_cons_succ, Nat.reduceLT, Nat.reduceLeDiff, Nat.reduceAdd, Nat.reduceSub, Nat.reduceEqDiff, reduceIte, reduceCtorEq, Nat.zero_add, decide_true, decide_false, if_true, if_false, ite_true, ite_false, Bool.not_true, Bool.not_false, Bool.and_true, Bool.true_and, Bool.or_true, Bool.true_or, Bool.or_false, Bool.false_or, decide_eq_true_eq, Bool.false_eq_true, gt_iff_lt, ge_iff_le, i1, l1, d1, hn]
  by_cases c2 : z.length > 32
  · have d1 : ¬ ((z.length : Int) < 1) := by omega
    have d2 : (32 : Int) < (z.length : Int) := by omega
    have hn : nameOk z = false := by unfold nameOk; rw [decide_eq_false (show ¬ z.length ≤ 32 by omega), Bool.and_false]; rfl
    simp only [Mi.ev, ne_eq, not_true_eq_false, not_false_eq_true, eq_self, Int.natCast_zero, Int.reduceLT, Int.reduceLE, Int.reduceEq, Int.reduceAdd, Int.reduceSub, Int.reduceNeg, Int.reduceToNat, Int.cast_ofNat_Int, Int.zero_add, Option.map_some, Option.map_none, Option.bind_some, Option.bind_none, List.map_cons, List.map_nil, List.length_cons, List.length_nil, List.replicate, List.cons_append, List.nil_append, List.getElem?_cons_zero, List.getElem?_cons_succ, List.getElem?_nil, List.set_cons_zero, List.set_cons_succ, Nat.reduceLT, Nat.reduceLeDiff, Nat.reduceAdd, Nat.reduceSub, Nat.reduceEqDiff, reduceIte, reduceCtorEq, Nat.zero_add, decide_true, decide_false, if_true, if_false, ite_true, ite_false, Bool.not_true, Bool.not_false, Bool.and_true, Bool.true_and, Bool.or_true, Bool.true_or, Bool.or_false, Bool.false_or, decide_eq_true_eq, Bool.false_eq_true, gt_iff_lt, ge_iff_le, i1, l1, d1, d2, hn]
  have d1 : ¬ ((z.length : Int) < 1) := by omega
  have d2 : ¬ ((32 : Int) < (z.length : Int)) := by omega
  obtain ⟨s', ⟨x, rfl⟩, hl⟩ := loop_all (mg := mgName 1) (ds := chD z) (x := .bl false) (s := ⟨[some (.str z), none], wd⟩)
    (k := mIf (mB (mBin (dInT true) true (mVar 1) (mC (.str "abcdefghijklmnopqrstuvwxyz0123456789-")))) (mRet (mC (.bl false))) (mFl .nx))
    (p := fun d => match d with
      | .str y => inSg (y.cps.getD 0 0)
      | _ => false)
    (fun s => ∃ x, s = ⟨[some (.str z), x], wd⟩) ⟨none, rfl⟩ (by
      rintro d s hd ⟨x, rfl⟩
      obtain ⟨c, hc, rfl⟩ := List.mem_map.mp hd
      have g : dInT true (.str ⟨#[c]⟩) (.str "abcdefghijklmnopqrstuvwxyz0123456789-") = some (.bl (!inSg c)) := rfl
      refine ⟨_, _, by simp only [Mi.ev, ne_eq, not_true_eq_false, not_false_eq_true, eq_self, Int.natCast_zero, Int.reduceLT, Int.reduceLE, Int.reduceEq, Int.reduceAdd, Int.reduceSub, Int.reduceNeg, Int.reduceToNat, Int.cast_ofNat_Int, Int.zero_add, Option.map_some, Option.map_none, Option.bind_some, Option.bind_none, List.map_cons, List.map_nil, List.length_cons, List.length_nil, List.replicate, List.cons_append, List.nil_append, List.getElem?_cons_zero, List.getElem?_cons_succ, List.getElem?_nil, List.set_cons_zero, List.set_cons_succ, Nat.reduceLT, Nat.reduceLeDiff, Nat.reduceAdd, Nat.reduceSub, Nat.reduceEqDiff, reduceIte, reduceCtorEq, Nat.zero_add, decide_true, decide_false, if_true, if_false, ite_true, ite_false, Bool.not_true, Bool.not_false, Bool.and_true, Bool.true_and, Bool.or_true, Bool.true_or, Bool.or_false, Bool.false_or, decide_eq_true_eq, Bool.false_eq_true, gt_iff_lt, ge_iff_le]; rfl, ?_, some (.str ⟨#[c]⟩), rfl⟩
      show _ = if inSg c = true then _ else _
      cases hi : inSg c with
      | true =>
        rw [hi] at g
        simp only [Mi.ev, ne_eq, not_true_eq_false, not_false_eq_true, eq_self, Int.natCast_zero, Int.reduceLT, Int.reduceLE, Int.reduceEq, Int.reduceAdd, Int.reduceSub, Int.reduceNeg, Int.reduceToNat, Int.cast_ofNat_Int, Int.zero_add, Option.map_some, Option.map_none, Option.bind_some, Option.bind_none, List.map_cons, List.map_nil, List.length_cons, List.length_nil, List.replicate, List.cons_append, List.nil_append, List.getElem?_cons_zero, List.getElem?_cons_succ, List.getElem?_nil, List.set_cons_zero, List.set_cons_succ, Nat.reduceLT, Nat.reduceLeDiff, Nat.reduceAdd, Nat.reduceSub, Nat.reduceEqDiff, reduceIte, reduceCtorEq, Nat.zero_add, decide_true, decide_false, if_true, if_false, ite_true, ite_false, Bool.not_true, Bool.not_false, Bool.and_true, Bool.true_and, Bool.or_true, Bool.true_or, Bool.or_false, Bool.false_or, decide_eq_true_eq, Bool.false_eq_true, gt_iff_lt, ge_iff_le, g]
      | false =>
        rw [hi] at g
        simp only [Mi.ev, ne_eq, not_true_eq_false, not_false_eq_true, eq_self, Int.natCast_zero, Int.reduceLT, Int.reduceLE, Int.reduceEq, Int.reduceAdd, Int.reduceSub, Int.reduceNeg, Int.reduceToNat, Int.cast_ofNat_Int, Int.zero_add, Option.map_some, Option.map_none, Option.bind_some, Option.bind_none, List.map_cons, List.map_nil, List.length_cons, List.length_nil, List.replicate, List.cons_append, List.nil_append, List.getElem?_cons_zero, List.getElem?_cons_succ, List.getElem?_nil, List.set_cons_zero, List.set_cons_succ, Nat.reduceLT, Nat.reduceLeDiff, Nat.reduceAdd, Nat.reduceSub, Nat.reduceEqDiff, reduceIte, reduceCtorEq, Nat.zero_add, decide_true, decide_false, if_true, if_false, ite_true, ite_false, Bool.not_true, Bool.not_false, Bool.and_true, Bool.true_and, Bool.or_true, Bool.true_or, Bool.or_false, Bool.false_or, decide_eq_true_eq, Bool.false_eq_true, gt_iff_lt, ge_iff_le, g])
  have ha : nameOk z = (chD z).all (fun d => match d with
      | .str y => inSg (y.cps.getD 0 0)
      | _ => false) := by
    unfold nameOk chD
    rw [decide_eq_true (show 1 ≤ z.length by omega), decide_eq_true (show z.length ≤ 32 by omega), Bool.true_and, Bool.true_and, List.all_map]
    rfl
  rw [← ha] at hl
  cases hn : nameOk z with
  | true =>
    rw [hn, if_pos rfl] at hl
    simp only [Mi.ev, ne_eq, not_true_eq_false, not_false_eq_true, eq_self, Int.natCast_zero, Int.reduceLT, Int.reduceLE, Int.reduceEq, Int.reduceAdd, Int.reduceSub, Int.reduceNeg, Int.reduceToNat, Int.cast_ofNat_Int, Int.zero_add, Option.map_some, Option.map_none, Option.bind_some, Option.bind_none, List.map_cons, List.map_nil, List.length_cons, List.length_nil, List.replicate, List.cons_append, List.nil_append, List.getElem?_cons_zero, List.getElem?_cons_succ, List.getElem?_nil, List.set_cons_zero, List.set_cons_succ, Nat.reduceLT, Nat.reduceLeDiff, Nat.reduceAdd, Nat.reduceSub, Nat.reduceEqDiff, reduceIte, reduceCtorEq, Nat.zero_add, decide_true, decide_false, if_true, if_false, ite_true, ite_false, Bool.not_true, Bool.not_false, Bool.and_true, Bool.true_and, Bool.or_true, Bool.true_or, Bool.or_false, Bool.false_or, decide_eq_true_eq, Bool.false_eq_true, gt_iff_lt, ge_iff_le, i1, l1, d1, d2, t1, hl]
  | false =>
    rw [hn, if_neg Bool.false_ne_true] at hl
    simp only [Mi.ev, ne_eq, not_true_eq_false, not_false_eq_true, eq_self, Int.natCast_zero, Int.reduceLT, Int.reduceLE, Int.reduceEq, Int.reduceAdd, Int.reduceSub, Int.reduceNeg, Int.reduceToNat, Int.cast_ofNat_Int, Int.zero_add, Option.map_some, Option.map_none, Option.bind_some, Option.bind_none, List.map_cons, List.map_nil, List.length_cons, List.length_nil, List.replicate, List.cons_append, List.nil_append, List.getElem?_cons_zero, List.getElem?_cons_succ, List.getElem?_nil, List.set_cons_zero, List.set_cons_succ, Nat.reduceLT, Nat.reduceLeDiff, Nat.reduceAdd, Nat.reduceSub, Nat.reduceEqDiff, reduceIte, reduceCtorEq, Nat.zero_add, decide_true, decide_false, if_true, if_false, ite_true, ite_false, Bool.not_true, Bool.not_false, Bool.and_true, Bool.true_and, Bool.or_true, Bool.true_or, Bool.or_false, Bool.false_or, decide_eq_true_eq, Bool.false_eq_true, gt_iff_lt, ge_iff_le, i1, l1, d1, d2, t1, hl]
theorem name_bytes_eq (wd : Option (List Ob)) (z : Str) (hz : z.length ≤ 100000) : F_name_bytes wd [.str z] = if nameOk z = true then .ok (.lst .o (il (codes z))) [] wd else .er ⟨"Malformed"⟩ [] wd := by
  unfold F_name_bytes m_name_bytes
  have f := is_name_eq none z hz
  cases hn : nameOk z with
  | false =>
    rw [hn] at f
    rw [if_neg Bool.false_ne_true]
    simp only [Mi.ev, ne_eq, not_true_eq_false, not_false_eq_true, eq_self, Int.natCast_zero, Int.reduceLT, Int.reduceLE, Int.reduceEq, Int.reduceAdd, Int.reduceSub, Int.reduceNeg, Int.reduceToNat, Int.cast_ofNat_Int, Int.zero_add, Option.map_some, Option.map_none, Option.bind_some, Option.bind_none, List.map_cons, List.map_nil, List.length_cons, List.length_nil, List.replicate, List.cons_append, List.nil_append, List.getElem?_cons_zero, List.getElem?_cons_succ, List.getElem?_nil, List.set_cons_zero, List.set_cons_succ, Nat.reduceLT, Nat.reduceLeDiff, Nat.reduceAdd, Nat.reduceSub, Nat.reduceEqDiff, reduceIte, reduceCtorEq, Nat.zero_add, decide_true, decide_false, if_true, if_false, ite_true, ite_false, Bool.not_true, Bool.not_false, Bool.and_true, Bool.true_and, Bool.or_true, Bool.true_or, Bool.or_false, Bool.false_or, decide_eq_true_eq, Bool.false_eq_true, gt_iff_lt, ge_iff_le, f]
  | true =>
    rw [hn] at f
    rw [if_pos rfl]
    have t1 : dItS (.str z) = some (chD z) := rfl
    have cl : (chD z).length ≤ 16777216 := by
      unfold chD
      rw [List.length_map, Array.length_toList]
      have : z.cps.size ≤ 100000 := hz
      omega
    have hc : compL (turnC (mgName 1) mTrue (mFrz (mUn dOrd (mVar 1))) ⟨wipeF [some (.str z), none] [1], wd⟩) (chD z) = some ((chD z).map fun d => match d with
      | .str y => .int (y.cps.getD 0 0 : Nat)
      | _ => .non) := comp_map fun d hd => by
        obtain ⟨c, hc, rfl⟩ := List.mem_map.mp hd
        rfl
    have he : ((chD z).map fun d => match d with
      | .str y => D.int (y.cps.getD 0 0 : Nat)
      | _ => .non) = il (codes z) := by
      unfold chD il codes
      rw [List.map_map, List.map_map]
      rfl
    rw [he] at hc
    simp only [Mi.ev, ne_eq, not_true_eq_false, not_false_eq_true, eq_self, Int.natCast_zero, Int.reduceLT, Int.reduceLE, Int.reduceEq, Int.reduceAdd, Int.reduceSub, Int.reduceNeg, Int.reduceToNat, Int.cast_ofNat_Int, Int.zero_add, Option.map_some, Option.map_none, Option.bind_some, Option.bind_none, List.map_cons, List.map_nil, List.length_cons, List.length_nil, List.replicate, List.cons_append, List.nil_append, List.getElem?_cons_zero, List.getElem?_cons_succ, List.getElem?_nil, List.set_cons_zero, List.set_cons_succ, Nat.reduceLT, Nat.reduceLeDiff, Nat.reduceAdd, Nat.reduceSub, Nat.reduceEqDiff, reduceIte, reduceCtorEq, Nat.zero_add, decide_true, decide_false, if_true, if_false, ite_true, ite_false, Bool.not_true, Bool.not_false, Bool.and_true, Bool.true_and, Bool.or_true, Bool.true_or, Bool.or_false, Bool.false_or, decide_eq_true_eq, Bool.false_eq_true, gt_iff_lt, ge_iff_le, Mi.evo, f, t1, cl, hc]
def sgl (m : List Nat) : List D := m.map fun c => .str ⟨#[c]⟩
theorem sgl_snoc (m : List Nat) (c : Nat) : sgl m ++ [.str ⟨#[c]⟩] = sgl (m ++ [c]) := by unfold sgl; rw [List.map_append]; rfl
theorem sgl_len (m : List Nat) : (sgl m).length = m.length := List.length_map ..
theorem sgl_strs (m : List Nat) : strsD (sgl m) = some (m.map fun c => ⟨#[c]⟩) := by
  induction m with
  | nil => rfl
  | cons c m ih =>
    show (strsD (sgl m)).map (fun zs => (⟨#[c]⟩ : Str) :: zs) = _
    rw [ih]
    rfl
theorem sgl_cp (m : List Nat) : cpL (sgl m) = true := by
  induction m with
  | nil => rfl
  | cons c m ih => exact ih
theorem bytes_name_eq (wd : Option (List Ob)) (l : List Int) (hl : l.length ≤ 100000) : F_bytes_name wd [.lst .f (il l)] = if bnOk l = true then .ok (.str (bnOf l)) [] wd else .er ⟨"Malformed"⟩ [] wd := by
  unfold F_bytes_name m_bytes_name
  have t1 : dItS (.str "abcdefghijklmnopqrstuvwxyz0123456789-") = some (sgl sgn) := rfl
  have sl37 : sgn.length = 37 := by decide +kernel
  obtain ⟨s', e, x, y, rfl⟩ := loop_inv (mg := mgName 2) (ds := il l) (j := 0) (s := ⟨[some (.lst .f (il l)), some (.lst .o []), none, none, none], wd⟩)
    (k := mFor (mIt dItS (mC (.str "abcdefghijklmnopqrstuvwxyz0123456789-"))) (mgName 3) (mIf (mB (mBin dEq true (mUn dOrd (mVar 3)) (mVar 2))) (mDrop (mMut 1 fAppend (mCons (mCp (mVar 3)) mNil))) (mFl .nx)))
    (fun i s => ∃ x y, s = ⟨[some (.lst .f (il l)), some (.lst .o (sgl (sgsOf (l.take i)))), x, y, none], wd⟩) ⟨none, none, rfl⟩ (by
      rintro i d s hd ⟨x, y, rfl⟩
      obtain ⟨z, hz, rfl⟩ := il_get hd
      rw [Nat.zero_add]
      have sl := sgs_le (l.take i)
      have tl := List.length_take_le' i l
      obtain ⟨s', e, y', rfl⟩ := loop_inv (mg := mgName 3) (ds := sgl sgn) (j := 0) (s := ⟨[some (.lst .f (il l)), some (.lst .o (sgl (sgsOf (l.take i)))), some (.int z), y, none], wd⟩)
        (k := mIf (mB (mBin dEq true (mUn dOrd (mVar 3)) (mVar 2))) (mDrop (mMut 1 fAppend (mCons (mCp (mVar 3)) mNil))) (mFl .nx))
        (fun j s => ∃ y, s = ⟨[some (.lst .f (il l)), some (.lst .o (sgl (sgsOf (l.take i) ++ (sgn.take j).filter (fun (c : Nat) => decide (((c : Nat) : Int) = z))))), some (.int z), y, none], wd⟩) ⟨y, by rw [List.take_zero, List.filter_nil, List.append_nil]⟩ (by
          rintro j d s hd ⟨y, rfl⟩
          rw [Nat.zero_add]
          obtain ⟨c, hc, rfl⟩ : ∃ c, sgn[j]? = some c ∧ d = .str ⟨#[c]⟩ := by
            unfold sgl at hd
            rw [List.getElem?_map] at hd
            cases hq : sgn[j]? with
            | none => rw [hq] at hd; cases hd
            | some c => rw [hq] at hd; cases hd; exact ⟨c, rfl, rfl⟩
          have et := Hk.take_more hc
          have o1 : dOrd (.str ⟨#[c]⟩) = some (.int (c : Int)) := rfl
          have fl := List.length_filter_le (fun (c : Nat) => decide (((c : Nat) : Int) = z)) (sgn.take j)
          have tl2 := List.length_take_le' j sgn
          have cl : (sgsOf (l.take i)).length + ((sgn.take j).filter (fun (c : Nat) => decide (((c : Nat) : Int) = z))).length < 16777216 := by omega
          by_cases h : (c : Int) = z
          · refine ⟨_, _, by simp only [Mi.ev, ne_eq, not_true_eq_false, not_false_eq_true, eq_self, Int.natCast_zero, Int.reduceLT, Int.reduceLE, Int.reduceEq, Int.reduceAdd, Int.reduceSub, Int.reduceNeg, Int.reduceToNat, Int.cast_ofNat_Int, Int.zero_add, Option.map_some, Option.map_none, Option.bind_some, Option.bind_none, List.map_cons, List.map_nil, List.length_cons, List.length_nil, List.replicate, List.cons_append, List.nil_append, List.getElem?_cons_zero, List.getElem?_cons_succ, List.getElem?_nil, List.set_cons_zero, List.set_cons_succ, Nat.reduceLT, Nat.reduceLeDiff, Nat.reduceAdd, Nat.reduceSub, Nat.reduceEqDiff, reduceIte, reduceCtorEq, Nat.zero_add, decide_true, decide_false, if_true, if_false, ite_true, ite_false, Bool.not_true, Bool.not_false, Bool.and_true, Bool.true_and, Bool.or_true, Bool.true_or, Bool.or_false, Bool.false_or, decide_eq_true_eq, Bool.false_eq_true, gt_iff_lt, ge_iff_le]; rfl, by simp only [Mi.ev, ne_eq, not_true_eq_false, not_false_eq_true, eq_self, Int.natCast_zero, Int.reduceLT, Int.reduceLE, Int.reduceEq, Int.reduceAdd, Int.reduceSub, Int.reduceNeg, Int.reduceToNat, Int.cast_ofNat_Int, Int.zero_add, Option.map_some, Option.map_none, Option.bind_some, Option.bind_none, List.map_cons, List.map_nil, List.length_cons, List.length_nil, List.replicate, List.cons_append, List.nil_append, List.getElem?_cons_zero, List.getElem?_cons_succ, List.getElem?_nil, List.set_cons_zero, List.set_cons_succ, Nat.reduceLT, Nat.reduceLeDiff, Nat.reduceAdd, Nat.reduceSub, Nat.reduceEqDiff, reduceIte, reduceCtorEq, Nat.zero_add, decide_true, decide_false, if_true, if_false, ite_true, ite_false, Bool.not_true, Bool.not_false, Bool.and_true, Bool.true_and, Bool.or_true, Bool.true_or, Bool.or_false, Bool.false_or, decide_eq_true_eq, Bool.false_eq_true, gt_iff_lt, ge_iff_le, o1, h, cl, sgl_len, List.length_append, sgl_snoc]; rfl, some (.str ⟨#[c]⟩), ?_⟩
            rw [et, List.filter_append, List.filter_cons, if_pos (decide_eq_true h), List.filter_nil, List.append_assoc]
          · refine ⟨_, _, by simp only [Mi.ev, ne_eq, not_true_eq_false, not_false_eq_true, eq_self, Int.natCast_zero, Int.reduceLT, Int.reduceLE, Int.reduceEq, Int.reduceAdd, Int.reduceSub, Int.reduceNeg, Int.reduceToNat, Int.cast_ofNat_Int, Int.zero_add, Option.map_some, Option.map_none, Option.bind_some, Option.bind_none, List.map_cons, List.map_nil, List.length_cons, List.length_nil, List.replicate, List.cons_append, List.nil_append, List.getElem?_cons_zero, List.getElem?_cons_succ, List.getElem?_nil, List.set_cons_zero, List.set_cons_succ, Nat.reduceLT, Nat.reduceLeDiff, Nat.reduceAdd, Nat.reduceSub, Nat.reduceEqDiff, reduceIte, reduceCtorEq, Nat.zero_add, decide_true, decide_false, if_true, if_false, ite_true, ite_false, Bool.not_true, Bool.not_false, Bool.and_true, Bool.true_and, Bool.or_true, Bool.true_or, Bool.or_false, Bool.false_or, decide_eq_true_eq, Bool.false_eq_true, gt_iff_lt, ge_iff_le]; rfl, by simp only [Mi.ev, ne_eq, not_true_eq_false, not_false_eq_true, eq_self, Int.natCast_zero, Int.reduceLT, Int.reduceLE, Int.reduceEq, Int.reduceAdd, Int.reduceSub, Int.reduceNeg, Int.reduceToNat, Int.cast_ofNat_Int, Int.zero_add, Option.map_some, Option.map_none, Option.bind_some, Option.bind_none, List.map_cons, List.map_nil, List.length_cons, List.length_nil, List.replicate, List.cons_append, List.nil_append, List.getElem?_cons_zero, List.getElem?_cons_succ, List.getElem?_nil, List.set_cons_zero, List.set_cons_succ, Nat.reduceLT, Nat.reduceLeDiff, Nat.reduceAdd, Nat.reduceSub, Nat.reduceEqDiff, reduceIte, reduceCtorEq, Nat.zero_add, decide_true, decide_false, if_true, if_false, ite_true, ite_false, Bool.not_true, Bool.not_false, Bool.and_true, Bool.true_and, Bool.or_true, Bool.true_or, Bool.or_false, Bool.false_or, decide_eq_true_eq, Bool.false_eq_true, gt_iff_lt, ge_iff_le, o1, h]; rfl, some (.str ⟨#[c]⟩), ?_⟩
            rw [et, List.filter_append, List.filter_cons, if_neg (by simpa using h), List.filter_nil, List.append_nil])
      rw [Nat.zero_add, sgl_len, List.take_length, sg_filt, ← sgs_app, ← Hk.take_more hz] at e
      exact ⟨_, _, by simp only [Mi.ev, ne_eq, not_true_eq_false, not_false_eq_true, eq_self, Int.natCast_zero, Int.reduceLT, Int.reduceLE, Int.reduceEq, Int.reduceAdd, Int.reduceSub, Int.reduceNeg, Int.reduceToNat, Int.cast_ofNat_Int, Int.zero_add, Option.map_some, Option.map_none, Option.bind_some, Option.bind_none, List.map_cons, List.map_nil, List.length_cons, List.length_nil, List.replicate, List.cons_append, List.nil_append, List.getElem?_cons_zero, List.getElem?_cons_succ, List.getElem?_nil, List.set_cons_zero, List.set_cons_succ, Nat.reduceLT, Nat.reduceLeDiff, Nat.reduceAdd, Nat.reduceSub, Nat.reduceEqDiff, reduceIte, reduceCtorEq, Nat.zero_add, decide_true, decide_false, if_true, if_false, ite_true, ite_false, Bool.not_true, Bool.not_false, Bool.and_true, Bool.true_and, Bool.or_true, Bool.true_or, Bool.or_false, Bool.false_or, decide_eq_true_eq, Bool.false_eq_true, gt_iff_lt, ge_iff_le]; rfl, by simp only [Mi.ev, ne_eq, not_true_eq_false, not_false_eq_true, eq_self, Int.natCast_zero, Int.reduceLT, Int.reduceLE, Int.reduceEq, Int.reduceAdd, Int.reduceSub, Int.reduceNeg, Int.reduceToNat, Int.cast_ofNat_Int, Int.zero_add, Option.map_some, Option.map_none, Option.bind_some, Option.bind_none, List.map_cons, List.map_nil, List.length_cons, List.length_nil, List.replicate, List.cons_append, List.nil_append, List.getElem?_cons_zero, List.getElem?_cons_succ, List.getElem?_nil, List.set_cons_zero, List.set_cons_succ, Nat.reduceLT, Nat.reduceLeDiff, Nat.reduceAdd, Nat.reduceSub, Nat.reduceEqDiff, reduceIte, reduceCtorEq, Nat.zero_add, decide_true, decide_false, if_true, if_false, ite_true, ite_false, Bool.not_true, Bool.not_false, Bool.and_true, Bool.true_and, Bool.or_true, Bool.true_or, Bool.or_false, Bool.false_or, decide_eq_true_eq, Bool.false_eq_true, gt_iff_lt, ge_iff_le, t1, e], some (.int z), y', rfl⟩)
  rw [Nat.zero_add, il_len, List.take_length] at e
  have sl := sgs_le l
  have jl : ∀ m : List Nat, ((m.map fun c => (⟨#[c]⟩ : Str)).map (·.length)).sum = m.length := by
    intro m
    induction m with
    | nil => rfl
    | cons c m ih =>
      rw [List.map_cons, List.map_cons, List.sum_cons, ih, List.length_cons]
      show 1 + m.length = m.length + 1
      omega
  have ej : Txt.join (Str.ofString "") ((sgsOf l).map fun c => (⟨#[c]⟩ : Str)) = txt (sgsOf l) := by
    rw [TL.join_eq]
    have h : ∀ m : List Nat, TL.tl (Str.join (Str.ofString "") (m.map fun c => (⟨#[c]⟩ : Str))) = m := by
      intro m
      rw [TL.tl_join]
      induction m with
      | nil => rfl
      | cons c m ih =>
        cases m with
        | nil => rfl
        | cons d m =>
          show [c] ++ ((TL.tl (Str.ofString "")) ++ TL.joinL (TL.tl (Str.ofString "")) (((d :: m).map fun c => (⟨#[c]⟩ : Str)).map TL.tl)) = c :: d :: m
          rw [ih]
          rfl
    have h2 := h (sgsOf l)
    have h3 : ∀ z : Str, z = ⟨(TL.tl z).toArray⟩ := fun z => by cases z; rfl
    exact (h3 _).trans (by rw [h2]; rfl)
  have j1 : dJoin (Str.ofString "") (.lst .o (sgl (sgsOf l))) = some (.str (txt (sgsOf l))) := by
    show (strsD (sgl (sgsOf l))).bind _ = _
    rw [sgl_strs]
    show (if _ then some _ else none) = _
    rw [if_pos, ej]
    rw [jl, List.length_map, show (Str.ofString "").length = 0 from rfl, Nat.mul_zero]
    omega
  have hx : (txt (sgsOf l)).length ≤ 100000 := by rw [txt_len]; omega
  have l1 : dLen (.str (txt (sgsOf l))) = some (.int (txt (sgsOf l)).length) := by
    show (if (txt (sgsOf l)).length ≤ 16777216 then some (D.int (txt (sgsOf l)).length) else none) = _
    rw [if_pos (by omega)]
  have f := is_name_eq none (txt (sgsOf l)) hx
  have bn := bn_name (l := l)
  by_cases h : (txt (sgsOf l)).length = l.length
  · have d1 : ((txt (sgsOf l)).length : Int) = (l.length : Int) := by omega
    rw [decide_eq_true h, Bool.true_and] at bn
    rw [bn] at f
    cases hb : bnOk l with
    | true =>
      rw [hb] at f
      rw [if_pos rfl, ← bn_txt hb]
      simp only [Mi.ev, ne_eq, not_true_eq_false, not_false_eq_true, eq_self, Int.natCast_zero, Int.reduceLT, Int.reduceLE, Int.reduceEq, Int.reduceAdd, Int.reduceSub, Int.reduceNeg, Int.reduceToNat, Int.cast_ofNat_Int, Int.zero_add, Option.map_some, Option.map_none, Option.bind_some, Option.bind_none, List.map_cons, List.map_nil, List.length_cons, List.length_nil, List.replicate, List.cons_append, List.nil_append, List.getElem?_cons_zero, List.getElem?_cons_succ, List.getElem?_nil, List.set_cons_zero, List.set_cons_succ, Nat.reduceLT, Nat.reduceLeDiff, Nat.reduceAdd, Nat.reduceSub, Nat.reduceEqDiff, reduceIte, reduceCtorEq, Nat.zero_add, decide_true, decide_false, if_true, if_false, ite_true, ite_false, Bool.not_true, Bool.not_false, Bool.and_true, Bool.true_and, Bool.or_true, Bool.true_or, Bool.or_false, Bool.false_or, decide_eq_true_eq, Bool.false_eq_true, gt_iff_lt, ge_iff_le, e, j1, l1, d1, f]
    | false =>
      rw [hb] at f
      rw [if_neg Bool.false_ne_true]
      simp only [Mi.ev, ne_eq, not_true_eq_false, not_false_eq_true, eq_self, Int.natCast_zero, Int.reduceLT, Int.reduceLE, Int.reduceEq, Int.reduceAdd, Int.reduceSub, Int.reduceNeg, Int.reduceToNat, Int.cast_ofNat_Int, Int.zero_add, Option.map_some, Option.map_none, Option.bind_some, Option.bind_none, List.map_cons, List.map_nil, List.length_cons, List.length_nil, List.replicate, List.cons_append, List.nil_append, List.getElem?_cons_zero, List.getElem?_cons_succ, List.getElem?_nil, List.set_cons_zero, List.set_cons_succ, Nat.reduceLT, Nat.reduceLeDiff, Nat.reduceAdd, Nat.reduceSub, Nat.reduceEqDiff, reduceIte, reduceCtorEq, Nat.zero_add, decide_true, decide_false, if_true, if_false, ite_true, ite_false, Bool.not_true, Bool.not_false, Bool.and_true, Bool.true_and, Bool.or_true, Bool.true_or, Bool.or_false, Bool.false_or, decide_eq_true_eq, Bool.false_eq_true, gt_iff_lt, ge_iff_le, e, j1, l1, d1, f]
  · have d1 : ¬ (((txt (sgsOf l)).length : Int) = (l.length : Int)) := by omega
    rw [decide_eq_false h, Bool.false_and] at bn
    rw [← bn, if_neg Bool.false_ne_true]
    simp only [Mi.ev, ne_eq, not_true_eq_false, not_false_eq_true, eq_self, Int.natCast_zero, Int.reduceLT, Int.reduceLE, Int.reduceEq, Int.reduceAdd, Int.reduceSub, Int.reduceNeg, Int.reduceToNat, Int.cast_ofNat_Int, Int.zero_add, Option.map_some, Option.map_none, Option.bind_some, Option.bind_none, List.map_cons, List.map_nil, List.length_cons, List.length_nil, List.replicate, List.cons_append, List.nil_append, List.getElem?_cons_zero, List.getElem?_cons_succ, List.getElem?_nil, List.set_cons_zero, List.set_cons_succ, Nat.reduceLT, Nat.reduceLeDiff, Nat.reduceAdd, Nat.reduceSub, Nat.reduceEqDiff, reduceIte, reduceCtorEq, Nat.zero_add, decide_true, decide_false, if_true, if_false, ite_true, ite_false, Bool.not_true, Bool.not_false, Bool.and_true, Bool.true_and, Bool.or_true, Bool.true_or, Bool.or_false, Bool.false_or, decide_eq_true_eq, Bool.false_eq_true, gt_iff_lt, ge_iff_le, e, j1, l1, d1, f]

/-- the start of a bank, as a tree -/
def stD : Option Start → D
  | none => .non
  | some (g, sd, none) => .tup [.int g, .lst .f (il sd), .non]
  | some (g, sd, some sc) => .tup [.int g, .lst .f (il sd), .lst .f (il sc)]
end T60

namespace T60
open PySem PySem.Spec PyProof.Rows L2 Hk Mi
theorem isi_int (n : Int) : dIsi "int" (.int n) = some (.bl true) := id rfl
theorem isi_bool (n : Int) : dIsi "bool" (.int n) = some (.bl false) := id rfl
theorem law_is_integer_eq (wd : Option (List Ob)) (n : Int) : F__law_is_integer wd [.int n] = .ok (.bl true) [] wd := by
  unfold F__law_is_integer m__law_is_integer
  simp only [Mi.ev, ne_eq, not_true_eq_false, not_false_eq_true, eq_self, Int.natCast_zero, Int.reduceLT, Int.reduceLE, Int.reduceEq, Int.reduceAdd, Int.reduceSub, Int.reduceNeg, Int.reduceToNat, Int.cast_ofNat_Int, Int.zero_add, Option.map_some, Option.map_none, Option.bind_some, Option.bind_none, List.map_cons, List.map_nil, List.length_cons, List.length_nil, List.replicate, List.cons_append, List.nil_append, List.getElem?_cons_zero, List.getElem?_cons_succ, List.getElem?_nil, List.set_cons_zero, List.set_cons_succ, Nat.reduceLT, Nat.reduceLeDiff, Nat.reduceAdd, Nat.reduceSub, Nat.reduceEqDiff, reduceIte, reduceCtorEq, Nat.zero_add, decide_true, decide_false, if_true, if_false, ite_true, ite_false, Bool.not_true, Bool.not_false, Bool.and_true, Bool.true_and, Bool.or_true, Bool.true_or, Bool.or_false, Bool.false_or, decide_eq_true_eq, Bool.false_eq_true, gt_iff_lt, ge_iff_le, Mi.evo, isi_int, isi_bool]
theorem law_cell_eq (wd : Option (List Ob)) (ns : List Int) (k : Nat) : F__law_cell wd [.lst .r (il ns), .int k] = .ok (.int (ns.getD k 0)) [] wd := by
  unfold F__law_cell m__law_cell
  by_cases c : k < ns.length
  · have c' : (k : Int) < (ns.length : Int) := by omega
    have a1 : atI ns (k : Int) = some (ns.getD k 0) := at_nat rfl c
    simp only [Mi.ev, ne_eq, not_true_eq_false, not_false_eq_true, eq_self, Int.natCast_zero, Int.reduceLT, Int.reduceLE, Int.reduceEq, Int.reduceAdd, Int.reduceSub, Int.reduceNeg, Int.reduceToNat, Int.cast_ofNat_Int, Int.zero_add, Option.map_some, Option.map_none, Option.bind_some, Option.bind_none, List.map_cons, List.map_nil, List.length_cons, List.length_nil, List.replicate, List.cons_append, List.nil_append, List.getElem?_cons_zero, List.getElem?_cons_succ, List.getElem?_nil, List.set_cons_zero, List.set_cons_succ, Nat.reduceLT, Nat.reduceLeDiff, Nat.reduceAdd, Nat.reduceSub, Nat.reduceEqDiff, reduceIte, reduceCtorEq, Nat.zero_add, decide_true, decide_false, if_true, if_false, ite_true, ite_false, Bool.not_true, Bool.not_false, Bool.and_true, Bool.true_and, Bool.or_true, Bool.true_or, Bool.or_false, Bool.false_or, decide_eq_true_eq, Bool.false_eq_true, gt_iff_lt, ge_iff_le, Mi.evo, c', a1]
  · have c' : ¬ (k : Int) < (ns.length : Int) := by omega
    have a1 : ns.getD k 0 = 0 := by rw [List.getD_eq_getElem?_getD, List.getElem?_eq_none (by omega)]; rfl
    simp only [Mi.ev, ne_eq, not_true_eq_false, not_false_eq_true, eq_self, Int.natCast_zero, Int.reduceLT, Int.reduceLE, Int.reduceEq, Int.reduceAdd, Int.reduceSub, Int.reduceNeg, Int.reduceToNat, Int.cast_ofNat_Int, Int.zero_add, Option.map_some, Option.map_none, Option.bind_some, Option.bind_none, List.map_cons, List.map_nil, List.length_cons, List.length_nil, List.replicate, List.cons_append, List.nil_append, List.getElem?_cons_zero, List.getElem?_cons_succ, List.getElem?_nil, List.set_cons_zero, List.set_cons_succ, Nat.reduceLT, Nat.reduceLeDiff, Nat.reduceAdd, Nat.reduceSub, Nat.reduceEqDiff, reduceIte, reduceCtorEq, Nat.zero_add, decide_true, decide_false, if_true, if_false, ite_true, ite_false, Bool.not_true, Bool.not_false, Bool.and_true, Bool.true_and, Bool.or_true, Bool.true_or, Bool.or_false, Bool.false_or, decide_eq_true_eq, Bool.false_eq_true, gt_iff_lt, ge_iff_le, Mi.evo, c', a1]
theorem abs_nn (z : Int) : 0 ≤ (if z < 0 then -z else z) := by split <;> omega
theorem law_row_ok (wd : Option (List Ob)) (z : Int) (k : Nat) (hk : k ≤ 4096) : ∃ l, l.length = k ∧ isBytes l ∧ F__law_row wd [.int z, .int k] = .ok (.lst .o (il l)) [] wd := by
  unfold F__law_row m__law_row
  have pw : dPow (.int 10) (.int 18) = some (.int 1000000000000000000) := by rfl
  have h1 : smallI (k : Int) = true := smallI_nat (by omega)
  have tk : ((k : Int)).toNat = k := Int.toNat_natCast k
  have hz := abs_nn z
  generalize he : (if z < 0 then -z else z) = a at hz
  by_cases c : (1000000000000000000 : Int) ≤ a
  · obtain ⟨s', e, num, ys, x, rfl, hn, ly, hb⟩ := loop_inv (mg := mgName 4) (ds := rangeD 0 k) (k := mSeq (mDrop (mMut 2 fAppend (mCons (mFrz (mBin dAnd true (mVar 3) (mC (D.int 255)))) mNil))) (mSet 3 (mFrz (mBin dShr true (mVar 3) (mC (D.int 8)))))) (j := 0)
      (s := ⟨[some (.int z), some (.int k), some (.lst .o []), some (.int a), none, none], wd⟩)
      (fun i s => ∃ (num : Int) (ys : List Int) (x : Option D), s = ⟨[some (.int z), some (.int k), some (.lst .o (il ys)), some (.int num), x, none], wd⟩ ∧ 0 ≤ num ∧ ys.length = i ∧ isBytes ys) ⟨a, [], none, rfl, hz, rfl, isBytes_nil⟩ (by
        rintro i d s hd ⟨num, ys, x, rfl, hn, ly, hb⟩
        obtain ⟨hi, rfl⟩ := range_get hd
        rw [Nat.zero_add] at *
        have h2 : ys.length < 16777216 := by omega
        have e2 : Builtin.bitAnd num 255 = num % 256 := band255 hn
        refine ⟨_, _, by simp only [Mi.ev, ne_eq, not_true_eq_false, not_false_eq_true, eq_self, Int.natCast_zero, Int.reduceLT, Int.reduceLE, Int.reduceEq, Int.reduceAdd, Int.reduceSub, Int.reduceNeg, Int.reduceToNat, Int.cast_ofNat_Int, Int.zero_add, Option.map_some, Option.map_none, Option.bind_some, Option.bind_none, List.map_cons, List.map_nil, List.length_cons, List.length_nil, List.replicate, List.cons_append, List.nil_append, List.getElem?_cons_zero, List.getElem?_cons_succ, List.getElem?_nil, List.set_cons_zero, List.set_cons_succ, Nat.reduceLT, Nat.reduceLeDiff, Nat.reduceAdd, Nat.reduceSub, Nat.reduceEqDiff, reduceIte, reduceCtorEq, Nat.zero_add, decide_true, decide_false, if_true, if_false, ite_true, ite_false, Bool.not_true, Bool.not_false, Bool.and_true, Bool.true_and, Bool.or_true, Bool.true_or, Bool.or_false, Bool.false_or, decide_eq_true_eq, Bool.false_eq_true, gt_iff_lt, ge_iff_le, Mi.evo] <;> rfl, by simp only [Mi.ev, ne_eq, not_true_eq_false, not_false_eq_true, eq_self, Int.natCast_zero, Int.reduceLT, Int.reduceLE, Int.reduceEq, Int.reduceAdd, Int.reduceSub, Int.reduceNeg, Int.reduceToNat, Int.cast_ofNat_Int, Int.zero_add, Option.map_some, Option.map_none, Option.bind_some, Option.bind_none, List.map_cons, List.map_nil, List.length_cons, List.length_nil, List.replicate, List.cons_append, List.nil_append, List.getElem?_cons_zero, List.getElem?_cons_succ, List.getElem?_nil, List.set_cons_zero, List.set_cons_succ, Nat.reduceLT, Nat.reduceLeDiff, Nat.reduceAdd, Nat.reduceSub, Nat.reduceEqDiff, reduceIte, reduceCtorEq, Nat.zero_add, decide_true, decide_false, if_true, if_false, ite_true, ite_false, Bool.not_true, Bool.not_false, Bool.and_true, Bool.true_and, Bool.or_true, Bool.true_or, Bool.or_false, Bool.false_or, decide_eq_true_eq, Bool.false_eq_true, gt_iff_lt, ge_iff_le, Mi.evo, h2] <;> rfl, num / 2 ^ 8, ys ++ [num % 256], some (.int i), ?_, Int.ediv_nonneg hn (by decide), by rw [List.length_append, ly]; rfl, isBytes_app hb fun y hy => by rw [List.mem_singleton.mp hy]; omega⟩
        rw [e2]
        try simp only [Int.zero_add]
        try rfl)
    have ek : 0 + (rangeD 0 k).length = k := by rw [range_len, Nat.zero_add]
    rw [ek] at ly
    refine ⟨ys, ly, hb, ?_⟩
    simp only [Mi.ev, ne_eq, not_true_eq_false, not_false_eq_true, eq_self, Int.natCast_zero, Int.reduceLT, Int.reduceLE, Int.reduceEq, Int.reduceAdd, Int.reduceSub, Int.reduceNeg, Int.reduceToNat, Int.cast_ofNat_Int, Int.zero_add, Option.map_some, Option.map_none, Option.bind_some, Option.bind_none, List.map_cons, List.map_nil, List.length_cons, List.length_nil, List.replicate, List.cons_append, List.nil_append, List.getElem?_cons_zero, List.getElem?_cons_succ, List.getElem?_nil, List.set_cons_zero, List.set_cons_succ, Nat.reduceLT, Nat.reduceLeDiff, Nat.reduceAdd, Nat.reduceSub, Nat.reduceEqDiff, reduceIte, reduceCtorEq, Nat.zero_add, decide_true, decide_false, if_true, if_false, ite_true, ite_false, Bool.not_true, Bool.not_false, Bool.and_true, Bool.true_and, Bool.or_true, Bool.true_or, Bool.or_false, Bool.false_or, decide_eq_true_eq, Bool.false_eq_true, gt_iff_lt, ge_iff_le, Mi.evo, he, pw, c, h1, tk, e]
  · have ha : (0 : Int) ≤ a % 2147483629 + 1 := by omega
    obtain ⟨s', e, num, ys, x, rfl, hn, ly, hb⟩ := loop_inv (mg := mgName 4) (ds := rangeD 0 k) (k := mSeq (mSet 5 (mFrz (mBin dMod true (mUn dInt (mBin dMul true (mVar 5) (mC (.int 48271)))) (mC (.int 2147483647))))) (mDrop (mMut 2 fAppend (mCons (mFrz (mBin dAnd true (mBin dAdd true (mBin dDiv true (mVar 5) (mC (.int 7))) (mVar 5)) (mC (.int 255)))) mNil)))) (j := 0)
      (s := ⟨[some (.int z), some (.int k), some (.lst .o []), some (.int a), none, some (.int (a % 2147483629 + 1))], wd⟩)
      (fun i s => ∃ (num : Int) (ys : List Int) (x : Option D), s = ⟨[some (.int z), some (.int k), some (.lst .o (il ys)), some (.int a), x, some (.int num)], wd⟩ ∧ 0 ≤ num ∧ ys.length = i ∧ isBytes ys) ⟨a % 2147483629 + 1, [], none, rfl, ha, rfl, isBytes_nil⟩ (by
        rintro i d s hd ⟨num, ys, x, rfl, hn, ly, hb⟩
        obtain ⟨hi, rfl⟩ := range_get hd
        rw [Nat.zero_add] at *
        have h2 : ys.length < 16777216 := by omega
        have hm : cMul num 48271 = true := decide_eq_true (.inr ⟨by decide, by decide⟩)
        have hq : 0 ≤ num * 48271 % 2147483647 := Int.emod_nonneg _ (by decide)
        generalize hw : num * 48271 % 2147483647 = q at hq
        have e2 : Builtin.bitAnd (q / 7 + q) 255 = (q / 7 + q) % 256 := band255 (by omega)
        refine ⟨_, _, by simp only [Mi.ev, ne_eq, not_true_eq_false, not_false_eq_true, eq_self, Int.natCast_zero, Int.reduceLT, Int.reduceLE, Int.reduceEq, Int.reduceAdd, Int.reduceSub, Int.reduceNeg, Int.reduceToNat, Int.cast_ofNat_Int, Int.zero_add, Option.map_some, Option.map_none, Option.bind_some, Option.bind_none, List.map_cons, List.map_nil, List.length_cons, List.length_nil, List.replicate, List.cons_append, List.nil_append, List.getElem?_cons_zero, List.getElem?_cons_succ, List.getElem?_nil, List.set_cons_zero, List.set_cons_succ, Nat.reduceLT, Nat.reduceLeDiff, Nat.reduceAdd, Nat.reduceSub, Nat.reduceEqDiff, reduceIte, reduceCtorEq, Nat.zero_add, decide_true, decide_false, if_true, if_false, ite_true, ite_false, Bool.not_true, Bool.not_false, Bool.and_true, Bool.true_and, Bool.or_true, Bool.true_or, Bool.or_false, Bool.false_or, decide_eq_true_eq, Bool.false_eq_true, gt_iff_lt, ge_iff_le, Mi.evo] <;> rfl, by simp only [Mi.ev, ne_eq, not_true_eq_false, not_false_eq_true, eq_self, Int.natCast_zero, Int.reduceLT, Int.reduceLE, Int.reduceEq, Int.reduceAdd, Int.reduceSub, Int.reduceNeg, Int.reduceToNat, Int.cast_ofNat_Int, Int.zero_add, Option.map_some, Option.map_none, Option.bind_some, Option.bind_none, List.map_cons, List.map_nil, List.length_cons, List.length_nil, List.replicate, List.cons_append, List.nil_append, List.getElem?_cons_zero, List.getElem?_cons_succ, List.getElem?_nil, List.set_cons_zero, List.set_cons_succ, Nat.reduceLT, Nat.reduceLeDiff, Nat.reduceAdd, Nat.reduceSub, Nat.reduceEqDiff, reduceIte, reduceCtorEq, Nat.zero_add, decide_true, decide_false, if_true, if_false, ite_true, ite_false, Bool.not_true, Bool.not_false, Bool.and_true, Bool.true_and, Bool.or_true, Bool.true_or, Bool.or_false, Bool.false_or, decide_eq_true_eq, Bool.false_eq_true, gt_iff_lt, ge_iff_le, Mi.evo, h2, hm, hw, e2] <;> rfl, q, ys ++ [(q / 7 + q) % 256], some (.int i), ?_, hq, by rw [List.length_append, ly]; rfl, isBytes_app hb fun y hy => by rw [List.mem_singleton.mp hy]; omega⟩
        try simp only [Int.zero_add])
    have ek : 0 + (rangeD 0 k).length = k := by rw [range_len, Nat.zero_add]
    rw [ek] at ly
    refine ⟨ys, ly, hb, ?_⟩
    have c' : ¬ ((1000000000000000000 : Int) ≤ a) := c
    simp only [Mi.ev, ne_eq, not_true_eq_false, not_false_eq_true, eq_self, Int.natCast_zero, Int.reduceLT, Int.reduceLE, Int.reduceEq, Int.reduceAdd, Int.reduceSub, Int.reduceNeg, Int.reduceToNat, Int.cast_ofNat_Int, Int.zero_add, Option.map_some, Option.map_none, Option.bind_some, Option.bind_none, List.map_cons, List.map_nil, List.length_cons, List.length_nil, List.replicate, List.cons_append, List.nil_append, List.getElem?_cons_zero, List.getElem?_cons_succ, List.getElem?_nil, List.set_cons_zero, List.set_cons_succ, Nat.reduceLT, Nat.reduceLeDiff, Nat.reduceAdd, Nat.reduceSub, Nat.reduceEqDiff, reduceIte, reduceCtorEq, Nat.zero_add, decide_true, decide_false, if_true, if_false, ite_true, ite_false, Bool.not_true, Bool.not_false, Bool.and_true, Bool.true_and, Bool.or_true, Bool.true_or, Bool.or_false, Bool.false_or, decide_eq_true_eq, Bool.false_eq_true, gt_iff_lt, ge_iff_le, Mi.evo, he, pw, c', h1, tk, e]

theorem comp_filt {f : D → Option (Option D)} {q : D → Bool} {h : D → D} : ∀ {ds : List D}, (∀ d ∈ ds, f d = some (if q d = true then some (h d) else none)) → compL f ds = some ((ds.filter q).map h)
  | [], _ => rfl
  | d :: ds, hs => by
    have ih := comp_filt (fun d hd => hs d (List.mem_cons_of_mem _ hd))
    unfold compL
    rw [hs d List.mem_cons_self, List.filter_cons]
    cases q d with
    | true =>
      rw [if_pos rfl, if_pos rfl]
      dsimp only
      rw [ih]
      rfl
    | false =>
      rw [if_neg Bool.false_ne_true, if_neg Bool.false_ne_true]
      dsimp only
      exact ih
theorem law_signs_eq (wd : Option (List Ob)) : F__law_signs wd [] = .ok (.str "abcdefghijklmnopqrstuvwxyz0123456789-") [] wd := by
  unfold F__law_signs m__law_signs
  simp only [Mi.ev, ne_eq, not_true_eq_false, not_false_eq_true, eq_self, Int.natCast_zero, Int.reduceLT, Int.reduceLE, Int.reduceEq, Int.reduceAdd, Int.reduceSub, Int.reduceNeg, Int.reduceToNat, Int.cast_ofNat_Int, Int.zero_add, Option.map_some, Option.map_none, Option.bind_some, Option.bind_none, List.map_cons, List.map_nil, List.length_cons, List.length_nil, List.replicate, List.cons_append, List.nil_append, List.getElem?_cons_zero, List.getElem?_cons_succ, List.getElem?_nil, List.set_cons_zero, List.set_cons_succ, Nat.reduceLT, Nat.reduceLeDiff, Nat.reduceAdd, Nat.reduceSub, Nat.reduceEqDiff, reduceIte, reduceCtorEq, Nat.zero_add, decide_true, decide_false, if_true, if_false, ite_true, ite_false, Bool.not_true, Bool.not_false, Bool.and_true, Bool.true_and, Bool.or_true, Bool.true_or, Bool.or_false, Bool.false_or, decide_eq_true_eq, Bool.false_eq_true, gt_iff_lt, ge_iff_le, Mi.evo]
theorem len_str {z : Str} (h : z.length ≤ 100000) : dLen (.str z) = some (.int z.length) := if_pos (by omega)
theorem right_eq (wd : Option (List Ob)) (z : Str) (hz : z.length ≤ 100000) : F__law_is_right_name wd [.str z] = .ok (.bl (nameOk z)) [] wd := by
  unfold F__law_is_right_name m__law_is_right_name
  have l1 := len_str hz
  have t1 : dItS (.str z) = some (chD z) := rfl
  by_cases c1 : z.length < 1
  · have d1 : (z.length : Int) < 1 := by omega
    have hn : nameOk z = false := by unfold nameOk; rw [decide_eq_false (by omega)]; rfl
    simp only [Mi.ev, ne_eq, not_true_eq_false, not_false_eq_true, eq_self, Int.natCast_zero, Int.reduceLT, Int.reduceLE, Int.reduceEq, Int.reduceAdd, Int.reduceSub, Int.reduceNeg, Int.reduceToNat, Int.cast_ofNat_Int, Int.zero_add, Option.map_some, Option.map_none, Option.bind_some, Option.bind_none, List.map_cons, List.map_nil, List.length_cons, List.length_nil, List.replicate, List.cons_append, List.nil_append, List.getElem?_cons_zero, List.getElem?_cons_succ, List.getElem?_nil, List.set_cons_zero, List.set_cons_succ, Nat.reduceLT, Nat.reduceLeDiff, Nat.reduceAdd, Nat.reduceSub, Nat.reduceEqDiff, reduceIte, reduceCtorEq, Nat.zero_add, decide_true, decide_false, if_true, if_false, ite_true, ite_false, Bool.not_true, Bool.not_false, Bool.and_true, Bool.true_and, Bool.or_true, Bool.true_or, Bool.or_false, Bool.false_or, decide_eq_true_eq, Bool.false_eq_true, gt_iff_lt, ge_iff_le, Mi.evo, l1, d1, hn]
  by_cases c2 : z.length > 32
  · have d1 : ¬ ((z.length : Int) < 1) := by omega
    have d2 : (32 : Int) < (z.length : Int) := by omega
    have hn : nameOk z = false := by unfold nameOk; rw [decide_eq_false (show ¬ z.length ≤ 32 by omega), Bool.and_false]; rfl
    simp only [Mi.ev, ne_eq, not_true_eq_false, not_false_eq_true, eq_self, Int.natCast_zero, Int.reduceLT, Int.reduceLE, Int.reduceEq, Int.reduceAdd, Int.reduceSub, Int.reduceNeg, Int.reduceToNat, Int.cast_ofNat_Int, Int.zero_add, Option.map_some, Option.map_none, Option.bind_some, Option.bind_none, List.map_cons, List.map_nil, List.length_cons, List.length_nil, List.replicate, List.cons_append, List.nil_append, List.getElem?_cons_zero, List.getElem?_cons_succ, List.getElem?_nil, List.set_cons_zero, List.set_cons_succ, Nat.reduceLT, Nat.reduceLeDiff, Nat.reduceAdd, Nat.reduceSub, Nat.reduceEqDiff, reduceIte, reduceCtorEq, Nat.zero_add, decide_true, decide_false, if_true, if_false, ite_true, ite_false, Bool.not_true, Bool.not_false, Bool.and_true, Bool.true_and, Bool.or_true, Bool.true_or, Bool.or_false, Bool.false_or, decide_eq_true_eq, Bool.false_eq_true, gt_iff_lt, ge_iff_le, Mi.evo, l1, d1, d2, hn]
  have d1 : ¬ ((z.length : Int) < 1) := by omega
  have d2 : ¬ ((32 : Int) < (z.length : Int)) := by omega
  have cl : (chD z).length ≤ 16777216 := by
    unfold chD
    rw [List.length_map, Array.length_toList]
    have : z.cps.size ≤ 100000 := hz
    omega
  have sg := law_signs_eq none
  have wf : wipeF [some (D.str z), none] [1] = [some (D.str z), none] := rfl
  have hc : compL (turnC (mgName 1) (mB (mBin (dInT true) true (mVar 1) (mCallP F__law_signs mNil))) (mCp (mVar 1)) ⟨[some (.str z), none], wd⟩) (chD z) = some (((chD z).filter fun d => match d with
    | .str y => !inSg (y.cps.getD 0 0)
    | _ => true).map fun d => d) := comp_filt fun d hd => by
      obtain ⟨c, hc, rfl⟩ := List.mem_map.mp hd
      have g : dInT true (.str ⟨#[c]⟩) (.str "abcdefghijklmnopqrstuvwxyz0123456789-") = some (.bl (!inSg c)) := rfl
      show _ = some (if (!inSg c) = true then _ else _)
      cases hi : inSg c with
      | true =>
        rw [hi] at g
        simp only [Mi.ev, ne_eq, not_true_eq_false, not_false_eq_true, eq_self, Int.natCast_zero, Int.reduceLT, Int.reduceLE, Int.reduceEq, Int.reduceAdd, Int.reduceSub, Int.reduceNeg, Int.reduceToNat, Int.cast_ofNat_Int, Int.zero_add, Option.map_some, Option.map_none, Option.bind_some, Option.bind_none, List.map_cons, List.map_nil, List.length_cons, List.length_nil, List.replicate, List.cons_append, List.nil_append, List.getElem?_cons_zero, List.getElem?_cons_succ, List.getElem?_nil, List.set_cons_zero, List.set_cons_succ, Nat.reduceLT, Nat.reduceLeDiff, Nat.reduceAdd, Nat.reduceSub, Nat.reduceEqDiff, reduceIte, reduceCtorEq, Nat.zero_add, decide_true, decide_false, if_true, if_false, ite_true, ite_false, Bool.not_true, Bool.not_false, Bool.and_true, Bool.true_and, Bool.or_true, Bool.true_or, Bool.or_false, Bool.false_or, decide_eq_true_eq, Bool.false_eq_true, gt_iff_lt, ge_iff_le, Mi.evo, sg, g]
      | false =>
        rw [hi] at g
        simp only [Mi.ev, ne_eq, not_true_eq_false, not_false_eq_true, eq_self, Int.natCast_zero, Int.reduceLT, Int.reduceLE, Int.reduceEq, Int.reduceAdd, Int.reduceSub, Int.reduceNeg, Int.reduceToNat, Int.cast_ofNat_Int, Int.zero_add, Option.map_some, Option.map_none, Option.bind_some, Option.bind_none, List.map_cons, List.map_nil, List.length_cons, List.length_nil, List.replicate, List.cons_append, List.nil_append, List.getElem?_cons_zero, List.getElem?_cons_succ, List.getElem?_nil, List.set_cons_zero, List.set_cons_succ, Nat.reduceLT, Nat.reduceLeDiff, Nat.reduceAdd, Nat.reduceSub, Nat.reduceEqDiff, reduceIte, reduceCtorEq, Nat.zero_add, decide_true, decide_false, if_true, if_false, ite_true, ite_false, Bool.not_true, Bool.not_false, Bool.and_true, Bool.true_and, Bool.or_true, Bool.true_or, Bool.or_false, Bool.false_or, decide_eq_true_eq, Bool.false_eq_true, gt_iff_lt, ge_iff_le, Mi.evo, sg, g]
  have hl : ((((chD z).filter fun d => match d with
    | .str y => !inSg (y.cps.getD 0 0)
    | _ => true).map fun d => d).length = 0) = (nameOk z = true) := by
    rw [List.length_map, List.length_eq_zero_iff, List.filter_eq_nil_iff]
    unfold nameOk chD
    rw [decide_eq_true (show 1 ≤ z.length by omega), decide_eq_true (show z.length ≤ 32 by omega), Bool.true_and, Bool.true_and, List.all_eq_true]
    refine propext ⟨fun h c hc => ?_, fun h d hd => ?_⟩
    · have := h (.str ⟨#[c]⟩) (List.mem_map.mpr ⟨c, hc, rfl⟩)
      have this : ¬ (!inSg c) = true := this
      simpa using this
    · obtain ⟨c, hc, rfl⟩ := List.mem_map.mp hd
      have := h c hc
      show ¬ (!inSg c) = true
      simpa using this
  generalize (((chD z).filter fun d => match d with
    | .str y => !inSg (y.cps.getD 0 0)
    | _ => true).map fun d => d) = R at hc hl
  by_cases hn : R.length = 0
  · have hn2 : nameOk z = true := by rw [← hl]; exact hn
    have hn' : (R.length : Int) = 0 := by omega
    simp only [Mi.ev, ne_eq, not_true_eq_false, not_false_eq_true, eq_self, Int.natCast_zero, Int.reduceLT, Int.reduceLE, Int.reduceEq, Int.reduceAdd, Int.reduceSub, Int.reduceNeg, Int.reduceToNat, Int.cast_ofNat_Int, Int.zero_add, Option.map_some, Option.map_none, Option.bind_some, Option.bind_none, List.map_cons, List.map_nil, List.length_cons, List.length_nil, List.replicate, List.cons_append, List.nil_append, List.getElem?_cons_zero, List.getElem?_cons_succ, List.getElem?_nil, List.set_cons_zero, List.set_cons_succ, Nat.reduceLT, Nat.reduceLeDiff, Nat.reduceAdd, Nat.reduceSub, Nat.reduceEqDiff, reduceIte, reduceCtorEq, Nat.zero_add, decide_true, decide_false, if_true, if_false, ite_true, ite_false, Bool.not_true, Bool.not_false, Bool.and_true, Bool.true_and, Bool.or_true, Bool.true_or, Bool.or_false, Bool.false_or, decide_eq_true_eq, Bool.false_eq_true, gt_iff_lt, ge_iff_le, Mi.evo, l1, d1, d2, t1, cl, wf, hc, hn', hn2]
  · have hn2 : nameOk z = false := by
      cases h : nameOk z with
      | false => rfl
      | true => rw [h] at hl; exact absurd (hl.mpr rfl) hn
    have hn' : ¬ (R.length : Int) = 0 := by omega
    simp only [Mi.ev, ne_eq, not_true_eq_false, not_false_eq_true, eq_self, Int.natCast_zero, Int.reduceLT, Int.reduceLE, Int.reduceEq, Int.reduceAdd, Int.reduceSub, Int.reduceNeg, Int.reduceToNat, Int.cast_ofNat_Int, Int.zero_add, Option.map_some, Option.map_none, Option.bind_some, Option.bind_none, List.map_cons, List.map_nil, List.length_cons, List.length_nil, List.replicate, List.cons_append, List.nil_append, List.getElem?_cons_zero, List.getElem?_cons_succ, List.getElem?_nil, List.set_cons_zero, List.set_cons_succ, Nat.reduceLT, Nat.reduceLeDiff, Nat.reduceAdd, Nat.reduceSub, Nat.reduceEqDiff, reduceIte, reduceCtorEq, Nat.zero_add, decide_true, decide_false, if_true, if_false, ite_true, ite_false, Bool.not_true, Bool.not_false, Bool.and_true, Bool.true_and, Bool.or_true, Bool.true_or, Bool.or_false, Bool.false_or, decide_eq_true_eq, Bool.false_eq_true, gt_iff_lt, ge_iff_le, Mi.evo, l1, d1, d2, t1, cl, wf, hc, hn', hn2]
end T60

namespace T60
open PySem PySem.Spec PyProof.Rows L2 Hk Mi
theorem join_sgl (m : List Nat) (hm : m.length ≤ 100000) : dJoin (Str.ofString "") (.lst .o (sgl m)) = some (.str (txt m)) := by
  have jl : ∀ m : List Nat, ((m.map fun c => (⟨#[c]⟩ : Str)).map (·.length)).sum = m.length := by
    intro m
    induction m with
    | nil => rfl
    | cons c m ih =>
      rw [List.map_cons, List.map_cons, List.sum_cons, ih, List.length_cons]
      show 1 + m.length = m.length + 1
      omega
  have ej : Txt.join (Str.ofString "") (m.map fun c => (⟨#[c]⟩ : Str)) = txt m := by
    rw [TL.join_eq]
    have h : ∀ m : List Nat, TL.tl (Str.join (Str.ofString "") (m.map fun c => (⟨#[c]⟩ : Str))) = m := by
      intro m
      rw [TL.tl_join]
      induction m with
      | nil => rfl
      | cons c m ih =>
        cases m with
        | nil => rfl
        | cons d m =>
          show [c] ++ ((TL.tl (Str.ofString "")) ++ TL.joinL (TL.tl (Str.ofString "")) (((d :: m).map fun c => (⟨#[c]⟩ : Str)).map TL.tl)) = c :: d :: m
          rw [ih]
          rfl
    have h2 := h m
    have h3 : ∀ z : Str, z = ⟨(TL.tl z).toArray⟩ := fun z => by cases z; rfl
    exact (h3 _).trans (by rw [h2]; rfl)
  show (strsD (sgl m)).bind _ = _
  rw [sgl_strs]
  show (if _ then some _ else none) = _
  rw [if_pos, ej]
  rw [jl, List.length_map, show (Str.ofString "").length = 0 from rfl, Nat.mul_zero]
  omega
theorem at_any {α : Type} {l : List α} {i : Int} (h0 : 0 ≤ i) (h1 : i < l.length) : ∃ y, atI l i = some y := by
  obtain ⟨k, rfl⟩ := Int.eq_ofNat_of_zero_le h0
  have hk : k < l.length := by omega
  refine ⟨l[k], ?_⟩
  have e : ixN l.length ((k : Nat) : Int) = some k := by
    unfold ixN
    simp
    omega
  unfold atI
  rw [e]
  exact List.getElem?_eq_getElem hk
theorem ixS_any {z : Str} {i : Int} (hz : z.length ≤ 100000) (h0 : 0 ≤ i) (h1 : i < z.length) : ∃ c : Nat, dIxS (.str z) (.int i) = some (.str ⟨#[c]⟩) := by
  obtain ⟨c, hc⟩ := at_any (l := z.cps.toList) h0 (by rw [Array.length_toList]; exact h1)
  refine ⟨c, ?_⟩
  show (if z.length ≤ 16777216 then (atI z.cps.toList i).map (fun c => D.str ⟨#[c]⟩) else none) = _
  rw [if_pos (by omega), hc]
  rfl
theorem catS_ok {x y : Str} (h : x.length + y.length ≤ 16777216) : dCatS (.str x) (.str y) = some (.str (x ++ y)) := if_pos h
theorem law_char_eq (wd : Option (List Ob)) (n : Int) : ∃ c : Nat, F__law_char wd [.int n] = .ok (.str ⟨#[c]⟩) [] wd := by
  have s1 := law_signs_eq none
  obtain ⟨A, hA⟩ : ∃ A : Str, A = " !\"#$&'()*+,./:;<=>?@ABCDEFGHIJKLMNOPQRSTUVWXYZ[\\]^_`{|}~\n" := ⟨_, rfl⟩
  obtain ⟨B, hB⟩ : ∃ B : Str, B = "abcdefghijklmnopqrstuvwxyz0123456789-" := ⟨_, rfl⟩
  have lA : A.length ≤ 1000 ∧ 0 < A.length := by rw [hA]; decide +kernel
  have lB : B.length ≤ 1000 := by rw [hB]; decide +kernel
  have lC : (A ++ B).length = A.length + B.length := PySem.Str.length_append A B
  obtain ⟨c, hc⟩ := ixS_any (z := A ++ B) (i := n % ((A ++ B).length : Int)) (by omega) (Int.emod_nonneg _ (by omega)) (Int.emod_lt_of_pos _ (by omega))
  have c1 := catS_ok (x := A) (y := B) (by omega)
  have l1 := len_str (z := A ++ B) (by omega)
  have l0 : (0 : Int) < ((A ++ B).length : Int) := by omega
  refine ⟨c, ?_⟩
  unfold F__law_char m__law_char
  rw [← hA]
  rw [← hB] at s1
  simp only [Mi.ev, ne_eq, not_true_eq_false, not_false_eq_true, eq_self, Int.natCast_zero, Int.reduceLT, Int.reduceLE, Int.reduceEq, Int.reduceAdd, Int.reduceSub, Int.reduceNeg, Int.reduceToNat, Int.cast_ofNat_Int, Int.zero_add, Option.map_some, Option.map_none, Option.bind_some, Option.bind_none, List.map_cons, List.map_nil, List.length_cons, List.length_nil, List.replicate, List.cons_append, List.nil_append, List.getElem?_cons_zero, List.getElem?_cons_succ, List.getElem?_nil, List.set_cons_zero, List.set_cons_succ, Nat.reduceLT, Nat.reduceLeDiff, Nat.reduceAdd, Nat.reduceSub, Nat.reduceEqDiff, reduceIte, reduceCtorEq, Nat.zero_add, decide_true, decide_false, if_true, if_false, ite_true, ite_false, Bool.not_true, Bool.not_false, Bool.and_true, Bool.true_and, Bool.or_true, Bool.true_or, Bool.or_false, Bool.false_or, decide_eq_true_eq, Bool.false_eq_true, gt_iff_lt, ge_iff_le, Mi.evo, s1, c1, l1, l0, hc]
theorem sgl_map (l : List Int) (f : Int → Nat) : (il l).map (fun d => match d with
    | .int n => D.str ⟨#[f n]⟩
    | _ => .non) = sgl (l.map f) := by
  unfold il sgl
  rw [List.map_map, List.map_map]
  rfl
theorem sg_at (n : Int) : ∃ c : Nat, dIxS (.str "abcdefghijklmnopqrstuvwxyz0123456789-") (.int (n % 37)) = some (.str ⟨#[c]⟩) := by
  have l37 : ("abcdefghijklmnopqrstuvwxyz0123456789-" : Str).length = 37 := by decide +kernel
  exact ixS_any (by rw [l37]; decide) (Int.emod_nonneg _ (by decide)) (by rw [l37]; exact Int.emod_lt_of_pos _ (by decide))
theorem band1 {x : Int} (h : 0 ≤ x) : Builtin.bitAnd x 1 = x % 2 := Bits.bitAnd_mask 1 h
theorem abs_nn2 (z : Int) : 0 ≤ (if z < 0 then -z else z) := by split <;> omega
theorem slS_ok {z : Str} (lo hi : Option Int) (h : z.length ≤ 100000) : dSlS (.str z) lo hi = some (.str (cutS z lo hi)) := if_pos (by omega)
theorem law_text_eq (wd : Option (List Ob)) (ns : List Int) : ∃ z : Str, z.length ≤ 1000 ∧ F__law_text wd [.lst .r (il ns)] = .ok (.str z) [] wd := by
  have g0 : F__law_cell none [.lst .r (il ns), .int 0] = _ := law_cell_eq none ns 0
  have g1 : F__law_cell none [.lst .r (il ns), .int 1] = _ := law_cell_eq none ns 1
  have g2 : F__law_cell none [.lst .r (il ns), .int 2] = _ := law_cell_eq none ns 2
  generalize ns.getD 0 0 = y0 at g0
  generalize ns.getD 1 0 = y1 at g1
  generalize ns.getD 2 0 = y2 at g2
  have hz := abs_nn2 y0
  generalize hy : (if y0 < 0 then -y0 else y0) = cell at hz
  obtain ⟨k, hk⟩ := Int.eq_ofNat_of_zero_le (show 0 ≤ cell % 35 by omega)
  obtain ⟨l, ll, lb, f1⟩ := law_row_ok none y1 k (by omega)
  have hk2 : k ≤ 34 := by omega
  have b1 := band1 (x := cell / 35) (by omega)
  have b2 := band1 (x := cell / 70) (by omega)
  have wf : wipeF [some (.lst .r (il ns)), some (.int cell), some (.lst .f (il l)), none, none, none] [5] = [some (.lst .r (il ns)), some (.int cell), some (.lst .f (il l)), none, none, none] := rfl
  have cl : l.length ≤ 16777216 := by omega
  have hc1 : compL (turnC (mgName 5) mTrue (mFrz (mCallP F__law_char (mCons (mCp (mVar 5)) mNil))) ⟨[some (.lst .r (il ns)), some (.int cell), some (.lst .f (il l)), none, none, none], wd⟩) (il l) = some ((il l).map fun d => match d with
    | .int n => D.str ⟨#[Classical.choose (law_char_eq none n)]⟩
    | _ => .non) := comp_map fun d hd => by
      obtain ⟨n, hn, rfl⟩ := List.mem_map.mp hd
      have f := Classical.choose_spec (law_char_eq none n)
      dsimp only
      generalize Classical.choose (law_char_eq none n) = c at f ⊢
      simp only [Mi.ev, ne_eq, not_true_eq_false, not_false_eq_true, eq_self, Int.natCast_zero, Int.reduceLT, Int.reduceLE, Int.reduceEq, Int.reduceAdd, Int.reduceSub, Int.reduceNeg, Int.reduceToNat, Int.cast_ofNat_Int, Int.zero_add, Option.map_some, Option.map_none, Option.bind_some, Option.bind_none, List.map_cons, List.map_nil, List.length_cons, List.length_nil, List.replicate, List.cons_append, List.nil_append, List.getElem?_cons_zero, List.getElem?_cons_succ, List.getElem?_nil, List.set_cons_zero, List.set_cons_succ, Nat.reduceLT, Nat.reduceLeDiff, Nat.reduceAdd, Nat.reduceSub, Nat.reduceEqDiff, reduceIte, reduceCtorEq, Nat.zero_add, decide_true, decide_false, if_true, if_false, ite_true, ite_false, Bool.not_true, Bool.not_false, Bool.and_true, Bool.true_and, Bool.or_true, Bool.true_or, Bool.or_false, Bool.false_or, decide_eq_true_eq, Bool.false_eq_true, gt_iff_lt, ge_iff_le, Mi.evo, f]
  rw [sgl_map] at hc1
  have hc2 : compL (turnC (mgName 5) mTrue (mFrz (mBin dIxS true (mCallP F__law_signs mNil) (mBin dMod true (mUn dInt (mVar 5)) (mC (.int 37))))) ⟨[some (.lst .r (il ns)), some (.int cell), some (.lst .f (il l)), none, none, none], wd⟩) (il l) = some ((il l).map fun d => match d with
    | .int n => D.str ⟨#[Classical.choose (sg_at n)]⟩
    | _ => .non) := comp_map fun d hd => by
      obtain ⟨n, hn, rfl⟩ := List.mem_map.mp hd
      have f := Classical.choose_spec (sg_at n)
      have s1 := law_signs_eq none
      dsimp only
      generalize Classical.choose (sg_at n) = c at f ⊢
      simp only [Mi.ev, ne_eq, not_true_eq_false, not_false_eq_true, eq_self, Int.natCast_zero, Int.reduceLT, Int.reduceLE, Int.reduceEq, Int.reduceAdd, Int.reduceSub, Int.reduceNeg, Int.reduceToNat, Int.cast_ofNat_Int, Int.zero_add, Option.map_some, Option.map_none, Option.bind_some, Option.bind_none, List.map_cons, List.map_nil, List.length_cons, List.length_nil, List.replicate, List.cons_append, List.nil_append, List.getElem?_cons_zero, List.getElem?_cons_succ, List.getElem?_nil, List.set_cons_zero, List.set_cons_succ, Nat.reduceLT, Nat.reduceLeDiff, Nat.reduceAdd, Nat.reduceSub, Nat.reduceEqDiff, reduceIte, reduceCtorEq, Nat.zero_add, decide_true, decide_false, if_true, if_false, ite_true, ite_false, Bool.not_true, Bool.not_false, Bool.and_true, Bool.true_and, Bool.or_true, Bool.true_or, Bool.or_false, Bool.false_or, decide_eq_true_eq, Bool.false_eq_true, gt_iff_lt, ge_iff_le, Mi.evo, s1, f]
  rw [sgl_map] at hc2
  have lm1 : (l.map fun n => Classical.choose (law_char_eq none n)).length = l.length := List.length_map ..
  have lm2 : (l.map fun n => Classical.choose (sg_at n)).length = l.length := List.length_map ..
  generalize (l.map fun n => Classical.choose (law_char_eq none n)) = m1 at hc1 lm1
  generalize (l.map fun n => Classical.choose (sg_at n)) = m2 at hc2 lm2
  have j1 := join_sgl m1 (by omega)
  have j2 := join_sgl m2 (by omega)
  have t1 := txt_len m1
  have t2 := txt_len m2
  generalize txt m1 = z1 at j1 t1
  generalize txt m2 = z2 at j2 t2
  unfold F__law_text m__law_text
  by_cases c1 : cell / 35 % 2 = 0
  · refine ⟨z1, by omega, ?_⟩
    simp only [Mi.ev, ne_eq, not_true_eq_false, not_false_eq_true, eq_self, Int.natCast_zero, Int.reduceLT, Int.reduceLE, Int.reduceEq, Int.reduceAdd, Int.reduceSub, Int.reduceNeg, Int.reduceToNat, Int.cast_ofNat_Int, Int.zero_add, Option.map_some, Option.map_none, Option.bind_some, Option.bind_none, List.map_cons, List.map_nil, List.length_cons, List.length_nil, List.replicate, List.cons_append, List.nil_append, List.getElem?_cons_zero, List.getElem?_cons_succ, List.getElem?_nil, List.set_cons_zero, List.set_cons_succ, Nat.reduceLT, Nat.reduceLeDiff, Nat.reduceAdd, Nat.reduceSub, Nat.reduceEqDiff, reduceIte, reduceCtorEq, Nat.zero_add, decide_true, decide_false, if_true, if_false, ite_true, ite_false, Bool.not_true, Bool.not_false, Bool.and_true, Bool.true_and, Bool.or_true, Bool.true_or, Bool.or_false, Bool.false_or, decide_eq_true_eq, Bool.false_eq_true, gt_iff_lt, ge_iff_le, Mi.evo, g0, hy, hk, g1, f1, b1, c1, cl, wf, hc1, j1]
  have l2 := len_str (z := z2) (by omega)
  by_cases c2 : cell / 70 % 2 = 1
  · by_cases c3 : 0 < z2.length
    · have c3' : (0 : Int) < (z2.length : Int) := by omega
      obtain ⟨i, hi⟩ := Int.eq_ofNat_of_zero_le (show 0 ≤ cell / 140 % (z2.length : Int) from Int.emod_nonneg _ (by omega))
      have q1 := slS_ok (z := z2) none (some (i : Int)) (by omega)
      have q2 := slS_ok (z := z2) (some ((i : Int) + 1)) none (by omega)
      have u1 := cutS_length z2 none (some (i : Int))
      have u2 := cutS_length z2 (some ((i : Int) + 1)) none
      generalize cutS z2 none (some (i : Int)) = x1 at q1 u1
      generalize cutS z2 (some ((i : Int) + 1)) none = x2 at q2 u2
      obtain ⟨c, fc⟩ := law_char_eq none (if y2 < 0 then -y2 else y2)
      generalize hy3 : (if y2 < 0 then -y2 else y2) = y3 at fc
      have lc : (⟨#[c]⟩ : Str).length = 1 := rfl
      have v1 := PySem.Str.length_append x1 (⟨#[c]⟩ : Str)
      have v2 := PySem.Str.length_append (x1 ++ (⟨#[c]⟩ : Str)) x2
      have k1 := catS_ok (x := x1) (y := (⟨#[c]⟩ : Str)) (by omega)
      have k2 := catS_ok (x := x1 ++ (⟨#[c]⟩ : Str)) (y := x2) (by omega)
      refine ⟨x1 ++ (⟨#[c]⟩ : Str) ++ x2, by omega, ?_⟩
      simp only [Mi.ev, ne_eq, not_true_eq_false, not_false_eq_true, eq_self, Int.natCast_zero, Int.reduceLT, Int.reduceLE, Int.reduceEq, Int.reduceAdd, Int.reduceSub, Int.reduceNeg, Int.reduceToNat, Int.cast_ofNat_Int, Int.zero_add, Option.map_some, Option.map_none, Option.bind_some, Option.bind_none, List.map_cons, List.map_nil, List.length_cons, List.length_nil, List.replicate, List.cons_append, List.nil_append, List.getElem?_cons_zero, List.getElem?_cons_succ, List.getElem?_nil, List.set_cons_zero, List.set_cons_succ, Nat.reduceLT, Nat.reduceLeDiff, Nat.reduceAdd, Nat.reduceSub, Nat.reduceEqDiff, reduceIte, reduceCtorEq, Nat.zero_add, decide_true, decide_false, if_true, if_false, ite_true, ite_false, Bool.not_true, Bool.not_false, Bool.and_true, Bool.true_and, Bool.or_true, Bool.true_or, Bool.or_false, Bool.false_or, decide_eq_true_eq, Bool.false_eq_true, gt_iff_lt, ge_iff_le, Mi.evo, g0, hy, hk, g1, f1, b1, c1, b2, c2, c3', cl, wf, hc2, j2, l2, hi, q1, q2, g2, hy3, fc, k1, k2]
    · have c3' : ¬ (0 : Int) < (z2.length : Int) := by omega
      refine ⟨z2, by omega, ?_⟩
      simp only [Mi.ev, ne_eq, not_true_eq_false, not_false_eq_true, eq_self, Int.natCast_zero, Int.reduceLT, Int.reduceLE, Int.reduceEq, Int.reduceAdd, Int.reduceSub, Int.reduceNeg, Int.reduceToNat, Int.cast_ofNat_Int, Int.zero_add, Option.map_some, Option.map_none, Option.bind_some, Option.bind_none, List.map_cons, List.map_nil, List.length_cons, List.length_nil, List.replicate, List.cons_append, List.nil_append, List.getElem?_cons_zero, List.getElem?_cons_succ, List.getElem?_nil, List.set_cons_zero, List.set_cons_succ, Nat.reduceLT, Nat.reduceLeDiff, Nat.reduceAdd, Nat.reduceSub, Nat.reduceEqDiff, reduceIte, reduceCtorEq, Nat.zero_add, decide_true, decide_false, if_true, if_false, ite_true, ite_false, Bool.not_true, Bool.not_false, Bool.and_true, Bool.true_and, Bool.or_true, Bool.true_or, Bool.or_false, Bool.false_or, decide_eq_true_eq, Bool.false_eq_true, gt_iff_lt, ge_iff_le, Mi.evo, g0, hy, hk, g1, f1, b1, c1, b2, c2, c3', cl, wf, hc2, j2, l2]
  · refine ⟨z2, by omega, ?_⟩
    simp only [Mi.ev, ne_eq, not_true_eq_false, not_false_eq_true, eq_self, Int.natCast_zero, Int.reduceLT, Int.reduceLE, Int.reduceEq, Int.reduceAdd, Int.reduceSub, Int.reduceNeg, Int.reduceToNat, Int.cast_ofNat_Int, Int.zero_add, Option.map_some, Option.map_none, Option.bind_some, Option.bind_none, List.map_cons, List.map_nil, List.length_cons, List.length_nil, List.replicate, List.cons_append, List.nil_append, List.getElem?_cons_zero, List.getElem?_cons_succ, List.getElem?_nil, List.set_cons_zero, List.set_cons_succ, Nat.reduceLT, Nat.reduceLeDiff, Nat.reduceAdd, Nat.reduceSub, Nat.reduceEqDiff, reduceIte, reduceCtorEq, Nat.zero_add, decide_true, decide_false, if_true, if_false, ite_true, ite_false, Bool.not_true, Bool.not_false, Bool.and_true, Bool.true_and, Bool.or_true, Bool.true_or, Bool.or_false, Bool.false_or, decide_eq_true_eq, Bool.false_eq_true, gt_iff_lt, ge_iff_le, Mi.evo, g0, hy, hk, g1, f1, b1, c1, b2, c2, cl, wf, hc2, j2]
end T60

namespace T60
open PySem PySem.Spec PyProof.Rows L2 Hk Mi
theorem same_eq {a b : D} {x : PyData} (ha : dat a = some x) (hb : dat b = some x) (hs : SeqAt.shaped x = true) : dEq a b = some (.bl true) ∧ dNe a b = some (.bl false) := by
  have r := SeqAt.eqv_refl x (Bool.and_eq_true_iff.mp hs).1
  unfold dEq dNe dEqv
  rw [ha, hb]
  dsimp only
  rw [hs, r]
  exact ⟨rfl, rfl⟩
theorem nm_str {z : Str} (h : nameOk z = true) : PyData.strOk z = true := by
  unfold nameOk at h
  rw [Bool.and_eq_true] at h
  show z.cps.all (· < 0x110000) = true
  rw [← Array.all_toList]
  refine List.all_eq_true.mpr fun c hc => ?_
  have := List.all_eq_true.mp h.2 c hc
  have h2 : c ∈ sgn := of_decide_eq_true this
  have h3 : sgn.all (· < 0x110000) = true := by decide +kernel
  exact List.all_eq_true.mp h3 c h2

theorem ilD (o : Md) (l : List Int) : dat (.lst o (il l)) = some (dInts l) := by
  have e : datL (il l) = some (l.map PyData.int) := by
    induction l with
    | nil => rfl
    | cons x l ih =>
      show (match dat (.int x), datL (il l) with
        | some x, some xs => some (x :: xs)
        | _, _ => none) = _
      rw [ih]
      rfl
  show (datL (il l)).map PyData.list = _
  rw [e]
  rfl
theorem same_il (o p : Md) (l : List Int) : dEq (.lst o (il l)) (.lst p (il l)) = some (.bl true) ∧ dNe (.lst o (il l)) (.lst p (il l)) = some (.bl false) := same_eq (ilD o l) (ilD p l) (shaped_of (sh_ints l) (by decide))
theorem same_str {z : Str} (h : nameOk z = true) : dEq (.str z) (.str z) = some (.bl true) := (same_eq (x := .str z) rfl rfl (by unfold SeqAt.shaped; rw [show (PyData.str z).canLay0 = true from nm_str h]; rfl)).1
theorem isl_ok {o : Md} {l : List D} : dIsi "list" (.lst o l) = some (.bl true) := by cases o <;> rfl
theorem row_eq (wd : Option (List Ob)) (l : List Int) (hb : isBytes l) : F__law_is_row wd [.lst .f (il l), .int l.length] = .ok (.bl true) [] wd := by
  unfold F__law_is_row m__law_is_row
  obtain ⟨s', e, x, rfl⟩ := loop_inv (mg := mgName 2) (ds := il l) (j := 0) (s := ⟨[some (.lst .f (il l)), some (.int l.length), none], wd⟩)
    (k := mIf (mOrB (mNotB (mB (mCallP F__law_is_integer (mCons (mCp (mVar 2)) mNil)))) (mOrB (mB (mBin dLt true (mVar 2) (mC (.int 0)))) (mB (mBin dGt true (mVar 2) (mC (.int 255)))))) (mRet (mC (.bl false))) (mFl .nx))
    (fun i s => ∃ x, s = ⟨[some (.lst .f (il l)), some (.int l.length), x], wd⟩) ⟨none, rfl⟩ (by
      rintro i d s hd ⟨x, rfl⟩
      obtain ⟨z, hz, rfl⟩ := il_get hd
      have q := hb z (List.mem_of_getElem? hz)
      have f := law_is_integer_eq none z
      have d1 : ¬ z < 0 := by omega
      have d2 : ¬ (255 : Int) < z := by omega
      exact ⟨_, _, by simp only [Mi.ev, ne_eq, not_true_eq_false, not_false_eq_true, eq_self, Int.natCast_zero, Int.reduceLT, Int.reduceLE, Int.reduceEq, Int.reduceAdd, Int.reduceSub, Int.reduceNeg, Int.reduceToNat, Int.cast_ofNat_Int, Int.zero_add, Option.map_some, Option.map_none, Option.bind_some, Option.bind_none, List.map_cons, List.map_nil, List.length_cons, List.length_nil, List.replicate, List.cons_append, List.nil_append, List.getElem?_cons_zero, List.getElem?_cons_succ, List.getElem?_nil, List.set_cons_zero, List.set_cons_succ, Nat.reduceLT, Nat.reduceLeDiff, Nat.reduceAdd, Nat.reduceSub, Nat.reduceEqDiff, reduceIte, reduceCtorEq, Nat.zero_add, decide_true, decide_false, if_true, if_false, ite_true, ite_false, Bool.not_true, Bool.not_false, Bool.and_true, Bool.true_and, Bool.or_true, Bool.true_or, Bool.or_false, Bool.false_or, decide_eq_true_eq, Bool.false_eq_true, gt_iff_lt, ge_iff_le, Mi.evo] <;> rfl, by simp only [Mi.ev, ne_eq, not_true_eq_false, not_false_eq_true, eq_self, Int.natCast_zero, Int.reduceLT, Int.reduceLE, Int.reduceEq, Int.reduceAdd, Int.reduceSub, Int.reduceNeg, Int.reduceToNat, Int.cast_ofNat_Int, Int.zero_add, Option.map_some, Option.map_none, Option.bind_some, Option.bind_none, List.map_cons, List.map_nil, List.length_cons, List.length_nil, List.replicate, List.cons_append, List.nil_append, List.getElem?_cons_zero, List.getElem?_cons_succ, List.getElem?_nil, List.set_cons_zero, List.set_cons_succ, Nat.reduceLT, Nat.reduceLeDiff, Nat.reduceAdd, Nat.reduceSub, Nat.reduceEqDiff, reduceIte, reduceCtorEq, Nat.zero_add, decide_true, decide_false, if_true, if_false, ite_true, ite_false, Bool.not_true, Bool.not_false, Bool.and_true, Bool.true_and, Bool.or_true, Bool.true_or, Bool.or_false, Bool.false_or, decide_eq_true_eq, Bool.false_eq_true, gt_iff_lt, ge_iff_le, Mi.evo, f, d1, d2] <;> rfl, some (.int z), rfl⟩)
  simp only [Mi.ev, ne_eq, not_true_eq_false, not_false_eq_true, eq_self, Int.natCast_zero, Int.reduceLT, Int.reduceLE, Int.reduceEq, Int.reduceAdd, Int.reduceSub, Int.reduceNeg, Int.reduceToNat, Int.cast_ofNat_Int, Int.zero_add, Option.map_some, Option.map_none, Option.bind_some, Option.bind_none, List.map_cons, List.map_nil, List.length_cons, List.length_nil, List.replicate, List.cons_append, List.nil_append, List.getElem?_cons_zero, List.getElem?_cons_succ, List.getElem?_nil, List.set_cons_zero, List.set_cons_succ, Nat.reduceLT, Nat.reduceLeDiff, Nat.reduceAdd, Nat.reduceSub, Nat.reduceEqDiff, reduceIte, reduceCtorEq, Nat.zero_add, decide_true, decide_false, if_true, if_false, ite_true, ite_false, Bool.not_true, Bool.not_false, Bool.and_true, Bool.true_and, Bool.or_true, Bool.true_or, Bool.or_false, Bool.false_or, decide_eq_true_eq, Bool.false_eq_true, gt_iff_lt, ge_iff_le, Mi.evo, isl_ok, e]
theorem ord_comp (n : Nat) (fr : List (Option D)) (wd : Option (List Ob)) (hf : fr[n]? = some none) (z : Str) : compL (turnC (mgName n) mTrue (mFrz (mUn dOrd (mVar n))) ⟨fr, wd⟩) (chD z) = some (il (codes z)) := by
  have hn : n < fr.length := (List.getElem?_eq_some_iff.mp hf).1
  have hc : compL (turnC (mgName n) mTrue (mFrz (mUn dOrd (mVar n))) ⟨fr, wd⟩) (chD z) = some ((chD z).map fun d => match d with
    | .str y => .int (y.cps.getD 0 0 : Nat)
    | _ => .non) := comp_map fun d hd => by
      obtain ⟨c, hc, rfl⟩ := List.mem_map.mp hd
      have o1 : dOrd (.str ⟨#[c]⟩) = some (.int (c : Int)) := rfl
      have g : (fr.set n (some (.str ⟨#[c]⟩)))[n]? = some (some (.str ⟨#[c]⟩)) := List.getElem?_set_self hn
      simp only [Mi.ev, ne_eq, not_true_eq_false, not_false_eq_true, eq_self, Int.natCast_zero, Int.reduceLT, Int.reduceLE, Int.reduceEq, Int.reduceAdd, Int.reduceSub, Int.reduceNeg, Int.reduceToNat, Int.cast_ofNat_Int, Int.zero_add, Option.map_some, Option.map_none, Option.bind_some, Option.bind_none, List.map_cons, List.map_nil, List.length_cons, List.length_nil, List.replicate, List.cons_append, List.nil_append, List.getElem?_cons_zero, List.getElem?_cons_succ, List.getElem?_nil, List.set_cons_zero, List.set_cons_succ, Nat.reduceLT, Nat.reduceLeDiff, Nat.reduceAdd, Nat.reduceSub, Nat.reduceEqDiff, reduceIte, reduceCtorEq, Nat.zero_add, decide_true, decide_false, if_true, if_false, ite_true, ite_false, Bool.not_true, Bool.not_false, Bool.and_true, Bool.true_and, Bool.or_true, Bool.true_or, Bool.or_false, Bool.false_or, decide_eq_true_eq, Bool.false_eq_true, gt_iff_lt, ge_iff_le, Mi.evo, hf, hn, g, o1]
      rfl
  have he : ((chD z).map fun d => match d with
    | .str y => D.int (y.cps.getD 0 0 : Nat)
    | _ => .non) = il (codes z) := by
    unfold chD il codes
    rw [List.map_map, List.map_map]
    rfl
  rw [he] at hc
  exact hc
theorem chD_le {z : Str} (h : z.length ≤ 100000) : (chD z).length ≤ 16777216 := by
  unfold chD
  rw [List.length_map, Array.length_toList]
  have : z.cps.size ≤ 100000 := h
  omega
theorem codes_by {z : Str} (h : nameOk z = true) : isBytes (codes z) := fun y hy => by
  have hb := kbody_bytes (x := z) (k := []) h (fun y hy => by cases hy)
  exact hb y (List.mem_cons_of_mem _ (List.mem_append_left _ hy))
theorem sub_h : sub_HushError "Malformed" = some true := id rfl
theorem kit_m : kit_Malformed "Malformed" = some true := id rfl
theorem isi_s (z : Str) : dIsi "str" (.str z) = some (.bl true) := id rfl
theorem law_bytes_eq (wd : Option (List Ob)) (z : Str) (hz : z.length ≤ 100000) : F__law_bytes wd [.str z] = .ok (.bl true) [] wd := by
  unfold F__law_bytes m__law_bytes
  have f1 := name_bytes_eq none z hz
  have f2 := right_eq none z hz
  have l1 := len_str hz
  have t1 : dItS (.str z) = some (chD z) := rfl
  cases hn : nameOk z with
  | false =>
    rw [hn, if_neg Bool.false_ne_true] at f1
    rw [hn] at f2
    simp only [Mi.ev, ne_eq, not_true_eq_false, not_false_eq_true, eq_self, Int.natCast_zero, Int.reduceLT, Int.reduceLE, Int.reduceEq, Int.reduceAdd, Int.reduceSub, Int.reduceNeg, Int.reduceToNat, Int.cast_ofNat_Int, Int.zero_add, Option.map_some, Option.map_none, Option.bind_some, Option.bind_none, List.map_cons, List.map_nil, List.length_cons, List.length_nil, List.replicate, List.cons_append, List.nil_append, List.getElem?_cons_zero, List.getElem?_cons_succ, List.getElem?_nil, List.set_cons_zero, List.set_cons_succ, Nat.reduceLT, Nat.reduceLeDiff, Nat.reduceAdd, Nat.reduceSub, Nat.reduceEqDiff, reduceIte, reduceCtorEq, Nat.zero_add, decide_true, decide_false, if_true, if_false, ite_true, ite_false, Bool.not_true, Bool.not_false, Bool.and_true, Bool.true_and, Bool.or_true, Bool.true_or, Bool.or_false, Bool.false_or, decide_eq_true_eq, Bool.false_eq_true, gt_iff_lt, ge_iff_le, Mi.evo, f1, f2, sub_h, kit_m]
  | true =>
    rw [hn, if_pos rfl] at f1
    rw [hn] at f2
    have f3 := row_eq none (codes z) (codes_by hn)
    rw [codes_len] at f3
    have n1 := (same_il .f .o (codes z)).2
    have hc := ord_comp 4 [some (.str z), some (.lst .f (il (codes z))), none, none, none] wd rfl z
    have wf : wipeF [some (.str z), some (.lst .f (il (codes z))), none, none, none] [4] = [some (.str z), some (.lst .f (il (codes z))), none, none, none] := rfl
    have f4 := bytes_name_eq none (codes z) (by rw [codes_len]; exact hz)
    rw [bnOk_codes hn, if_pos rfl, bnOf_codes] at f4
    have cl := chD_le hz
    simp only [Mi.ev, ne_eq, not_true_eq_false, not_false_eq_true, eq_self, Int.natCast_zero, Int.reduceLT, Int.reduceLE, Int.reduceEq, Int.reduceAdd, Int.reduceSub, Int.reduceNeg, Int.reduceToNat, Int.cast_ofNat_Int, Int.zero_add, Option.map_some, Option.map_none, Option.bind_some, Option.bind_none, List.map_cons, List.map_nil, List.length_cons, List.length_nil, List.replicate, List.cons_append, List.nil_append, List.getElem?_cons_zero, List.getElem?_cons_succ, List.getElem?_nil, List.set_cons_zero, List.set_cons_succ, Nat.reduceLT, Nat.reduceLeDiff, Nat.reduceAdd, Nat.reduceSub, Nat.reduceEqDiff, reduceIte, reduceCtorEq, Nat.zero_add, decide_true, decide_false, if_true, if_false, ite_true, ite_false, Bool.not_true, Bool.not_false, Bool.and_true, Bool.true_and, Bool.or_true, Bool.true_or, Bool.or_false, Bool.false_or, decide_eq_true_eq, Bool.false_eq_true, gt_iff_lt, ge_iff_le, Mi.evo, f1, f2, l1, f3, t1, cl, wf, hc, n1, f4, isi_s, same_str hn]
end T60

namespace T60
open PySem PySem.Spec PyProof.Rows L2 Hk Mi
theorem il_dat (l : List Int) : datL (il l) = some (l.map PyData.int) := by
  induction l with
  | nil => rfl
  | cons x l ih =>
    show (match dat (.int x), datL (il l) with
      | some x, some xs => some (x :: xs)
      | _, _ => none) = _
    rw [ih]
    rfl
theorem notin_sg (z : Int) : dNotIn (.int z) (.lst .f (il (codes "abcdefghijklmnopqrstuvwxyz0123456789-"))) = some (.bl (!sgI z)) := by
  have e : dNotIn (.int z) (.lst .f (il (codes "abcdefghijklmnopqrstuvwxyz0123456789-"))) = match datL (il (codes "abcdefghijklmnopqrstuvwxyz0123456789-")) with
    | some xs => if (SeqAt.shaped (.int z) && SeqAt.shaped (.list xs)) = true then some (.bl (!(xs.any fun y => PyData.eqv y (.int z)))) else none
    | none => none := rfl
  rw [e, il_dat]
  dsimp only
  have h1 : SeqAt.shaped (.list ((codes "abcdefghijklmnopqrstuvwxyz0123456789-").map PyData.int)) = true := shaped_of (sh_ints (codes "abcdefghijklmnopqrstuvwxyz0123456789-")) (by decide)
  rw [if_pos (by rw [shaped_of (sh_int (n := 1) z) (by decide), h1]; rfl)]
  have : (((codes "abcdefghijklmnopqrstuvwxyz0123456789-").map PyData.int).any fun y => PyData.eqv y (.int z)) = sgI z := by
    unfold codes sgI sgn Hk.SG
    rw [List.map_map, List.any_map]
    rfl
  rw [this]
theorem codes_bn {l : List Int} (h : bnOk l = true) : codes (bnOf l) = l := by
  unfold bnOk at h
  rw [Bool.and_eq_true] at h
  have ha := List.all_eq_true.mp h.2
  unfold codes bnOf
  rw [List.map_map]
  have : l.map ((fun (c : Nat) => (c : Int)) ∘ Int.toNat) = l.map id := List.map_congr_left fun z hz => by
    have := (sgI_toNat (ha z hz)).2
    show ((z.toNat : Nat) : Int) = z
    omega
  show l.map ((fun (c : Nat) => (c : Int)) ∘ Int.toNat) = l
  rw [this, List.map_id]
theorem bn_len {l : List Int} : (bnOf l).length = l.length := by
  show ((l.map Int.toNat).toArray).size = _
  simp
theorem ch_eq (l : List Int) (t : List (Option D)) (wd : Option (List Ob)) : mChain dLe dLe (mC (.int 1)) (mFrz (mUn dLen (mVar 0))) (mC (.int 32)) ⟨some (.lst .f (il l)) :: t, wd⟩ = .ok (.bl (decide ((1 : Int) ≤ l.length) && decide ((l.length : Int) ≤ 32))) ⟨some (.lst .f (il l)) :: t, wd⟩ := by
  have e1 : (mFrz (mUn dLen (mVar 0))) ⟨some (.lst .f (il l)) :: t, wd⟩ = .ok (.int l.length) ⟨some (.lst .f (il l)) :: t, wd⟩ := by simp only [Mi.ev, ne_eq, not_true_eq_false, not_false_eq_true, eq_self, Int.natCast_zero, Int.reduceLT, Int.reduceLE, Int.reduceEq, Int.reduceAdd, Int.reduceSub, Int.reduceNeg, Int.reduceToNat, Int.cast_ofNat_Int, Int.zero_add, Option.map_some, Option.map_none, Option.bind_some, Option.bind_none, List.map_cons, List.map_nil, List.length_cons, List.length_nil, List.replicate, List.cons_append, List.nil_append, List.getElem?_cons_zero, List.getElem?_cons_succ, List.getElem?_nil, List.set_cons_zero, List.set_cons_succ, Nat.reduceLT, Nat.reduceLeDiff, Nat.reduceAdd, Nat.reduceSub, Nat.reduceEqDiff, reduceIte, reduceCtorEq, Nat.zero_add, decide_true, decide_false, if_true, if_false, ite_true, ite_false, Bool.not_true, Bool.not_false, Bool.and_true, Bool.true_and, Bool.or_true, Bool.true_or, Bool.or_false, Bool.false_or, decide_eq_true_eq, Bool.false_eq_true, gt_iff_lt, ge_iff_le, Mi.evo, List.getElem?_cons_zero]
  have e0 : (mC (.int 1) : M D) ⟨some (.lst .f (il l)) :: t, wd⟩ = .ok (.int 1) ⟨some (.lst .f (il l)) :: t, wd⟩ := rfl
  have e2 : (mC (.int 32) : M D) ⟨some (.lst .f (il l)) :: t, wd⟩ = .ok (.int 32) ⟨some (.lst .f (il l)) :: t, wd⟩ := rfl
  have d1 : dLe (.int 1) (.int l.length) = some (.bl (decide ((1 : Int) ≤ l.length))) := rfl
  have d2 : dLe (.int l.length) (.int 32) = some (.bl (decide ((l.length : Int) ≤ 32))) := rfl
  unfold mChain
  rw [e0, e_bok, e1, e_bok, d1]
  cases decide ((1 : Int) ≤ l.length) with
  | false => rfl
  | true =>
    dsimp only
    rw [e2, e_bok, d2]
    rfl
theorem law_codes_eq (wd : Option (List Ob)) (l : List Int) (hl : l.length ≤ 1000) : F__law_codes wd [.lst .f (il l)] = .ok (.bl true) [] wd := by
  have s1 := law_signs_eq none
  have t1 : dItS (.str "abcdefghijklmnopqrstuvwxyz0123456789-") = some (chD "abcdefghijklmnopqrstuvwxyz0123456789-") := rfl
  have l37 : ("abcdefghijklmnopqrstuvwxyz0123456789-" : Str).length = 37 := by decide +kernel
  have c37 := chD_le (z := "abcdefghijklmnopqrstuvwxyz0123456789-") (by rw [l37]; decide)
  have hc0 := ord_comp 6 [some (.lst .f (il l)), none, none, none, none, none, none, none] wd rfl "abcdefghijklmnopqrstuvwxyz0123456789-"
  have ns := notin_sg
  have fs := il_frz (codes "abcdefghijklmnopqrstuvwxyz0123456789-")
  generalize il (codes "abcdefghijklmnopqrstuvwxyz0123456789-") = SL at hc0 ns fs
  generalize chD "abcdefghijklmnopqrstuvwxyz0123456789-" = SC at t1 c37 hc0
  have w0 : wipeF [some (.lst .f (il l)), none, none, none, none, none, none, none] [6] = [some (D.lst .f (il l)), none, none, none, none, none, none, none] := rfl
  have w1 : wipeF [some (.lst .f (il l)), some (.lst .f SL), none, none, none, none, none, none] [7] = [some (D.lst .f (il l)), some (.lst .f SL), none, none, none, none, none, none] := rfl
  have hc1 : compL (turnC (mgName 7) (mB (mBin dNotIn true (mVar 7) (mVar 1))) (mCp (mVar 7)) ⟨[some (.lst .f (il l)), some (.lst .f SL), none, none, none, none, none, none], wd⟩) (il l) = some (((il l).filter fun d => match d with
    | .int z => !sgI z
    | _ => true).map fun d => d) := comp_filt fun d hd => by
      obtain ⟨z, hz, rfl⟩ := List.mem_map.mp hd
      have g := ns z
      show _ = some (if (!sgI z) = true then _ else _)
      cases hi : sgI z with
      | true =>
        rw [hi] at g
        simp only [Mi.ev, ne_eq, not_true_eq_false, not_false_eq_true, eq_self, Int.natCast_zero, Int.reduceLT, Int.reduceLE, Int.reduceEq, Int.reduceAdd, Int.reduceSub, Int.reduceNeg, Int.reduceToNat, Int.cast_ofNat_Int, Int.zero_add, Option.map_some, Option.map_none, Option.bind_some, Option.bind_none, List.map_cons, List.map_nil, List.length_cons, List.length_nil, List.replicate, List.cons_append, List.nil_append, List.getElem?_cons_zero, List.getElem?_cons_succ, List.getElem?_nil, List.set_cons_zero, List.set_cons_succ, Nat.reduceLT, Nat.reduceLeDiff, Nat.reduceAdd, Nat.reduceSub, Nat.reduceEqDiff, reduceIte, reduceCtorEq, Nat.zero_add, decide_true, decide_false, if_true, if_false, ite_true, ite_false, Bool.not_true, Bool.not_false, Bool.and_true, Bool.true_and, Bool.or_true, Bool.true_or, Bool.or_false, Bool.false_or, decide_eq_true_eq, Bool.false_eq_true, gt_iff_lt, ge_iff_le, Mi.evo, g]
      | false =>
        rw [hi] at g
        simp only [Mi.ev, ne_eq, not_true_eq_false, not_false_eq_true, eq_self, Int.natCast_zero, Int.reduceLT, Int.reduceLE, Int.reduceEq, Int.reduceAdd, Int.reduceSub, Int.reduceNeg, Int.reduceToNat, Int.cast_ofNat_Int, Int.zero_add, Option.map_some, Option.map_none, Option.bind_some, Option.bind_none, List.map_cons, List.map_nil, List.length_cons, List.length_nil, List.replicate, List.cons_append, List.nil_append, List.getElem?_cons_zero, List.getElem?_cons_succ, List.getElem?_nil, List.set_cons_zero, List.set_cons_succ, Nat.reduceLT, Nat.reduceLeDiff, Nat.reduceAdd, Nat.reduceSub, Nat.reduceEqDiff, reduceIte, reduceCtorEq, Nat.zero_add, decide_true, decide_false, if_true, if_false, ite_true, ite_false, Bool.not_true, Bool.not_false, Bool.and_true, Bool.true_and, Bool.or_true, Bool.true_or, Bool.or_false, Bool.false_or, decide_eq_true_eq, Bool.false_eq_true, gt_iff_lt, ge_iff_le, Mi.evo, g]
  have hll : ((((il l).filter fun d => match d with
    | .int z => !sgI z
    | _ => true).map fun d => d).length = 0) = (l.all sgI = true) := by
    rw [List.length_map, List.length_eq_zero_iff, List.filter_eq_nil_iff, List.all_eq_true]
    refine propext ⟨fun h z hz => ?_, fun h d hd => ?_⟩
    · have := h (.int z) (List.mem_map.mpr ⟨z, hz, rfl⟩)
      have this : ¬ (!sgI z) = true := this
      simpa using this
    · obtain ⟨z, hz, rfl⟩ := List.mem_map.mp hd
      have := h z hz
      show ¬ (!sgI z) = true
      simpa using this
  generalize (((il l).filter fun d => match d with
    | .int z => !sgI z
    | _ => true).map fun d => d) = R at hc1 hll
  have cl : l.length ≤ 16777216 := by omega
  have f := bytes_name_eq none l (by omega)
  have n1 := (same_il .f .f l).1
  have n2 := (same_il .o .f l).1
  unfold F__law_codes m__law_codes
  have right : ∀ b, bnOk l = b → (b = true → (1 : Int) ≤ l.length ∧ (l.length : Int) ≤ 32 ∧ (R.length : Int) = 0) ∧ (b = false → (¬ (1 : Int) ≤ l.length) ∨ (¬ (l.length : Int) ≤ 32) ∨ ¬ (R.length : Int) = 0) := by
    rintro b rfl
    unfold bnOk
    constructor
    · intro h
      rw [Bool.and_eq_true, Bool.and_eq_true, decide_eq_true_eq, decide_eq_true_eq] at h
      have : R.length = 0 := by rw [hll]; exact h.2
      omega
    · intro h
      by_cases h1 : 1 ≤ l.length
      · by_cases h2 : l.length ≤ 32
        · right; right
          rw [decide_eq_true h1, decide_eq_true h2, Bool.true_and, Bool.true_and] at h
          intro z
          have z : R.length = 0 := by omega
          rw [hll, h] at z
          exact Bool.false_ne_true z
        · right; left; omega
      · left; omega
  cases hb : bnOk l with
  | true =>
    obtain ⟨r1, r2, r3⟩ := (right _ hb).1 rfl
    rw [hb, if_pos rfl] at f
    have hc2 := ord_comp 6 [some (.lst .f (il l)), some (.lst .f SL), some (.bl true), some (.lst .f (il l)), some (.str (bnOf l)), none, none, none] wd rfl (bnOf l)
    rw [codes_bn hb] at hc2
    have w2 : wipeF [some (.lst .f (il l)), some (.lst .f SL), some (.bl true), some (.lst .f (il l)), some (.str (bnOf l)), none, none, none] [6] = [some (.lst .f (il l)), some (.lst .f SL), some (.bl true), some (.lst .f (il l)), some (.str (bnOf l)), none, none, none] := rfl
    have t2 : dItS (.str (bnOf l)) = some (chD (bnOf l)) := rfl
    have c2 := chD_le (z := bnOf l) (by rw [bn_len]; omega)
    simp only [Mi.ev, ne_eq, not_true_eq_false, not_false_eq_true, eq_self, Int.natCast_zero, Int.reduceLT, Int.reduceLE, Int.reduceEq, Int.reduceAdd, Int.reduceSub, Int.reduceNeg, Int.reduceToNat, Int.cast_ofNat_Int, Int.zero_add, Option.map_some, Option.map_none, Option.bind_some, Option.bind_none, List.map_cons, List.map_nil, List.length_cons, List.length_nil, List.replicate, List.cons_append, List.nil_append, List.getElem?_cons_zero, List.getElem?_cons_succ, List.getElem?_nil, List.set_cons_zero, List.set_cons_succ, Nat.reduceLT, Nat.reduceLeDiff, Nat.reduceAdd, Nat.reduceSub, Nat.reduceEqDiff, reduceIte, reduceCtorEq, Nat.zero_add, decide_true, decide_false, if_true, if_false, ite_true, ite_false, Bool.not_true, Bool.not_false, Bool.and_true, Bool.true_and, Bool.or_true, Bool.true_or, Bool.or_false, Bool.false_or, decide_eq_true_eq, Bool.false_eq_true, gt_iff_lt, ge_iff_le, Mi.evo, s1, t1, c37, w0, hc0, fs, ch_eq, Bool.and_true, Bool.and_false, Bool.true_and, Bool.false_and, r1, r2, cl, w1, hc1, r3, f, isi_s, t2, c2, w2, hc2, n1, n2]
  | false =>
    rw [hb, if_neg Bool.false_ne_true] at f
    rcases (right _ hb).2 rfl with r | r | r
    · simp only [Mi.ev, ne_eq, not_true_eq_false, not_false_eq_true, eq_self, Int.natCast_zero, Int.reduceLT, Int.reduceLE, Int.reduceEq, Int.reduceAdd, Int.reduceSub, Int.reduceNeg, Int.reduceToNat, Int.cast_ofNat_Int, Int.zero_add, Option.map_some, Option.map_none, Option.bind_some, Option.bind_none, List.map_cons, List.map_nil, List.length_cons, List.length_nil, List.replicate, List.cons_append, List.nil_append, List.getElem?_cons_zero, List.getElem?_cons_succ, List.getElem?_nil, List.set_cons_zero, List.set_cons_succ, Nat.reduceLT, Nat.reduceLeDiff, Nat.reduceAdd, Nat.reduceSub, Nat.reduceEqDiff, reduceIte, reduceCtorEq, Nat.zero_add, decide_true, decide_false, if_true, if_false, ite_true, ite_false, Bool.not_true, Bool.not_false, Bool.and_true, Bool.true_and, Bool.or_true, Bool.true_or, Bool.or_false, Bool.false_or, decide_eq_true_eq, Bool.false_eq_true, gt_iff_lt, ge_iff_le, Mi.evo, s1, t1, c37, w0, hc0, fs, ch_eq, Bool.and_true, Bool.and_false, Bool.true_and, Bool.false_and, r, f, sub_h, kit_m, n1]
    · by_cases r1 : (1 : Int) ≤ l.length
      · simp only [Mi.ev, ne_eq, not_true_eq_false, not_false_eq_true, eq_self, Int.natCast_zero, Int.reduceLT, Int.reduceLE, Int.reduceEq, Int.reduceAdd, Int.reduceSub, Int.reduceNeg, Int.reduceToNat, Int.cast_ofNat_Int, Int.zero_add, Option.map_some, Option.map_none, Option.bind_some, Option.bind_none, List.map_cons, List.map_nil, List.length_cons, List.length_nil, List.replicate, List.cons_append, List.nil_append, List.getElem?_cons_zero, List.getElem?_cons_succ, List.getElem?_nil, List.set_cons_zero, List.set_cons_succ, Nat.reduceLT, Nat.reduceLeDiff, Nat.reduceAdd, Nat.reduceSub, Nat.reduceEqDiff, reduceIte, reduceCtorEq, Nat.zero_add, decide_true, decide_false, if_true, if_false, ite_true, ite_false, Bool.not_true, Bool.not_false, Bool.and_true, Bool.true_and, Bool.or_true, Bool.true_or, Bool.or_false, Bool.false_or, decide_eq_true_eq, Bool.false_eq_true, gt_iff_lt, ge_iff_le, Mi.evo, s1, t1, c37, w0, hc0, fs, ch_eq, Bool.and_true, Bool.and_false, Bool.true_and, Bool.false_and, r1, r, f, sub_h, kit_m, n1]
      · simp only [Mi.ev, ne_eq, not_true_eq_false, not_false_eq_true, eq_self, Int.natCast_zero, Int.reduceLT, Int.reduceLE, Int.reduceEq, Int.reduceAdd, Int.reduceSub, Int.reduceNeg, Int.reduceToNat, Int.cast_ofNat_Int, Int.zero_add, Option.map_some, Option.map_none, Option.bind_some, Option.bind_none, List.map_cons, List.map_nil, List.length_cons, List.length_nil, List.replicate, List.cons_append, List.nil_append, List.getElem?_cons_zero, List.getElem?_cons_succ, List.getElem?_nil, List.set_cons_zero, List.set_cons_succ, Nat.reduceLT, Nat.reduceLeDiff, Nat.reduceAdd, Nat.reduceSub, Nat.reduceEqDiff, reduceIte, reduceCtorEq, Nat.zero_add, decide_true, decide_false, if_true, if_false, ite_true, ite_false, Bool.not_true, Bool.not_false, Bool.and_true, Bool.true_and, Bool.or_true, Bool.true_or, Bool.or_false, Bool.false_or, decide_eq_true_eq, Bool.false_eq_true, gt_iff_lt, ge_iff_le, Mi.evo, s1, t1, c37, w0, hc0, fs, ch_eq, Bool.and_true, Bool.and_false, Bool.true_and, Bool.false_and, r1, f, sub_h, kit_m, n1]
    · by_cases r1 : (1 : Int) ≤ l.length
      · by_cases r2 : (l.length : Int) ≤ 32
        · simp only [Mi.ev, ne_eq, not_true_eq_false, not_false_eq_true, eq_self, Int.natCast_zero, Int.reduceLT, Int.reduceLE, Int.reduceEq, Int.reduceAdd, Int.reduceSub, Int.reduceNeg, Int.reduceToNat, Int.cast_ofNat_Int, Int.zero_add, Option.map_some, Option.map_none, Option.bind_some, Option.bind_none, List.map_cons, List.map_nil, List.length_cons, List.length_nil, List.replicate, List.cons_append, List.nil_append, List.getElem?_cons_zero, List.getElem?_cons_succ, List.getElem?_nil, List.set_cons_zero, List.set_cons_succ, Nat.reduceLT, Nat.reduceLeDiff, Nat.reduceAdd, Nat.reduceSub, Nat.reduceEqDiff, reduceIte, reduceCtorEq, Nat.zero_add, decide_true, decide_false, if_true, if_false, ite_true, ite_false, Bool.not_true, Bool.not_false, Bool.and_true, Bool.true_and, Bool.or_true, Bool.true_or, Bool.or_false, Bool.false_or, decide_eq_true_eq, Bool.false_eq_true, gt_iff_lt, ge_iff_le, Mi.evo, s1, t1, c37, w0, hc0, fs, ch_eq, Bool.and_true, Bool.and_false, Bool.true_and, Bool.false_and, r1, r2, cl, w1, hc1, r, f, sub_h, kit_m, n1]
        · simp only [Mi.ev, ne_eq, not_true_eq_false, not_false_eq_true, eq_self, Int.natCast_zero, Int.reduceLT, Int.reduceLE, Int.reduceEq, Int.reduceAdd, Int.reduceSub, Int.reduceNeg, Int.reduceToNat, Int.cast_ofNat_Int, Int.zero_add, Option.map_some, Option.map_none, Option.bind_some, Option.bind_none, List.map_cons, List.map_nil, List.length_cons, List.length_nil, List.replicate, List.cons_append, List.nil_append, List.getElem?_cons_zero, List.getElem?_cons_succ, List.getElem?_nil, List.set_cons_zero, List.set_cons_succ, Nat.reduceLT, Nat.reduceLeDiff, Nat.reduceAdd, Nat.reduceSub, Nat.reduceEqDiff, reduceIte, reduceCtorEq, Nat.zero_add, decide_true, decide_false, if_true, if_false, ite_true, ite_false, Bool.not_true, Bool.not_false, Bool.and_true, Bool.true_and, Bool.or_true, Bool.true_or, Bool.or_false, Bool.false_or, decide_eq_true_eq, Bool.false_eq_true, gt_iff_lt, ge_iff_le, Mi.evo, s1, t1, c37, w0, hc0, fs, ch_eq, Bool.and_true, Bool.and_false, Bool.true_and, Bool.false_and, r1, r2, f, sub_h, kit_m, n1]
      · simp only [Mi.ev, ne_eq, not_true_eq_false, not_false_eq_true, eq_self, Int.natCast_zero, Int.reduceLT, Int.reduceLE, Int.reduceEq, Int.reduceAdd, Int.reduceSub, Int.reduceNeg, Int.reduceToNat, Int.cast_ofNat_Int, Int.zero_add, Option.map_some, Option.map_none, Option.bind_some, Option.bind_none, List.map_cons, List.map_nil, List.length_cons, List.length_nil, List.replicate, List.cons_append, List.nil_append, List.getElem?_cons_zero, List.getElem?_cons_succ, List.getElem?_nil, List.set_cons_zero, List.set_cons_succ, Nat.reduceLT, Nat.reduceLeDiff, Nat.reduceAdd, Nat.reduceSub, Nat.reduceEqDiff, reduceIte, reduceCtorEq, Nat.zero_add, decide_true, decide_false, if_true, if_false, ite_true, ite_false, Bool.not_true, Bool.not_false, Bool.and_true, Bool.true_and, Bool.or_true, Bool.true_or, Bool.or_false, Bool.false_or, decide_eq_true_eq, Bool.false_eq_true, gt_iff_lt, ge_iff_le, Mi.evo, s1, t1, c37, w0, hc0, fs, ch_eq, Bool.and_true, Bool.and_false, Bool.true_and, Bool.false_and, r1, f, sub_h, kit_m, n1]
end T60

namespace T60
open PySem PySem.Spec PyProof.Rows L2 Hk Mi
theorem says_eq (b : Bool) : F__law_says none [.bl b, .bl b] = .ok (.bl true) [] none := by
  unfold F__law_says m__law_says
  have h1 : dIsB false (.bl true) (.bl true) = some (.bl true) := rfl
  have h2 : dIsB false (.bl false) (.bl false) = some (.bl true) := rfl
  cases b <;> simp only [Mi.ev, ne_eq, not_true_eq_false, not_false_eq_true, eq_self, Int.natCast_zero, Int.reduceLT, Int.reduceLE, Int.reduceEq, Int.reduceAdd, Int.reduceSub, Int.reduceNeg, Int.reduceToNat, Int.cast_ofNat_Int, Int.zero_add, Option.map_some, Option.map_none, Option.bind_some, Option.bind_none, List.map_cons, List.map_nil, List.length_cons, List.length_nil, List.replicate, List.cons_append, List.nil_append, List.getElem?_cons_zero, List.getElem?_cons_succ, List.getElem?_nil, List.set_cons_zero, List.set_cons_succ, Nat.reduceLT, Nat.reduceLeDiff, Nat.reduceAdd, Nat.reduceSub, Nat.reduceEqDiff, reduceIte, reduceCtorEq, Nat.zero_add, decide_true, decide_false, if_true, if_false, ite_true, ite_false, Bool.not_true, Bool.not_false, Bool.and_true, Bool.true_and, Bool.or_true, Bool.true_or, Bool.or_false, Bool.false_or, decide_eq_true_eq, Bool.false_eq_true, gt_iff_lt, ge_iff_le, Mi.evo, h1, h2]
theorem not_name {d : D} (h : dIsi "str" d = some (.bl false)) (hc : ∀ s, kCp d s = .ok d s) : F_is_name none [d] = .ok (.bl false) [] none := by
  unfold F_is_name m_is_name
  simp only [Mi.ev, ne_eq, not_true_eq_false, not_false_eq_true, eq_self, Int.natCast_zero, Int.reduceLT, Int.reduceLE, Int.reduceEq, Int.reduceAdd, Int.reduceSub, Int.reduceNeg, Int.reduceToNat, Int.cast_ofNat_Int, Int.zero_add, Option.map_some, Option.map_none, Option.bind_some, Option.bind_none, List.map_cons, List.map_nil, List.length_cons, List.length_nil, List.replicate, List.cons_append, List.nil_append, List.getElem?_cons_zero, List.getElem?_cons_succ, List.getElem?_nil, List.set_cons_zero, List.set_cons_succ, Nat.reduceLT, Nat.reduceLeDiff, Nat.reduceAdd, Nat.reduceSub, Nat.reduceEqDiff, reduceIte, reduceCtorEq, Nat.zero_add, decide_true, decide_false, if_true, if_false, ite_true, ite_false, Bool.not_true, Bool.not_false, Bool.and_true, Bool.true_and, Bool.or_true, Bool.true_or, Bool.or_false, Bool.false_or, decide_eq_true_eq, Bool.false_eq_true, gt_iff_lt, ge_iff_le, Mi.evo, h]
def kOth : M D := (mFrz (mBin dIx true (mArgs dLst (mCons (mFrz (mUn dInt (mVar 2))) (mCons (mC .non) (mCons (mC (.bl true)) (mCons (mFrz (mArgs dLst (mCons (mC (.str "a")) mNil))) (mCons (mFrz (mArgs dTup (mCons (mC (.str "a")) (mCons (mC (.str "b")) mNil)))) (mCons (mFrz (mArgs dLst mNil)) (mCons (mFrz (mC (.dic true [.inr "a"] [.int 1]))) mNil)))))))) (mBin dMod true (mUn dInt (mVar 2)) (mC (.int 7)))))
theorem at_k {α : Type} {l : List α} {k : Nat} {x : α} (h : l[k]? = some x) : atI l (k : Int) = some x := by
  have hk : k < l.length := (List.getElem?_eq_some_iff.mp h).1
  have e : ixN l.length ((k : Nat) : Int) = some k := by
    unfold ixN
    simp
    omega
  unfold atI
  rw [e]
  exact h
theorem oth_ok {sc t cell : Int} {a b : D} {e : Option D} {r : List (Option D)} {wd : Option (List Ob)} (hc : 0 ≤ cell) : ∃ d, kOth ⟨some a :: some b :: some (.int cell) :: r, wd⟩ = .ok d ⟨some a :: some b :: some (.int cell) :: r, wd⟩ ∧ F_is_name none [d] = .ok (.bl false) [] none ∧ ∀ s, kCp d s = .ok d s := by
  have h : cell % 7 = 0 ∨ cell % 7 = 1 ∨ cell % 7 = 2 ∨ cell % 7 = 3 ∨ cell % 7 = 4 ∨ cell % 7 = 5 ∨ cell % 7 = 6 := by omega
  have q0 : atI [D.int cell, .non, .bl true, .lst .f [.str "a"], .tup [.str "a", .str "b"], .lst .f [], .dic false [.inr "a"] [.int 1]] 0 = some (.int cell) := at_k (k := 0) rfl
  have q1 : atI [D.int cell, .non, .bl true, .lst .f [.str "a"], .tup [.str "a", .str "b"], .lst .f [], .dic false [.inr "a"] [.int 1]] 1 = some .non := at_k (k := 1) rfl
  have q2 : atI [D.int cell, .non, .bl true, .lst .f [.str "a"], .tup [.str "a", .str "b"], .lst .f [], .dic false [.inr "a"] [.int 1]] 2 = some (.bl true) := at_k (k := 2) rfl
  have q3 : atI [D.int cell, .non, .bl true, .lst .f [.str "a"], .tup [.str "a", .str "b"], .lst .f [], .dic false [.inr "a"] [.int 1]] 3 = some (.lst .f [.str "a"]) := at_k (k := 3) rfl
  have q4 : atI [D.int cell, .non, .bl true, .lst .f [.str "a"], .tup [.str "a", .str "b"], .lst .f [], .dic false [.inr "a"] [.int 1]] 4 = some (.tup [.str "a", .str "b"]) := at_k (k := 4) rfl
  have q5 : atI [D.int cell, .non, .bl true, .lst .f [.str "a"], .tup [.str "a", .str "b"], .lst .f [], .dic false [.inr "a"] [.int 1]] 5 = some (.lst .f []) := at_k (k := 5) rfl
  have q6 : atI [D.int cell, .non, .bl true, .lst .f [.str "a"], .tup [.str "a", .str "b"], .lst .f [], .dic false [.inr "a"] [.int 1]] 6 = some (.dic false [.inr "a"] [.int 1]) := at_k (k := 6) rfl
  have fd : frz (.dic true [.inr "a"] [.int 1]) = .dic false [.inr "a"] [.int 1] := rfl
  have fd2 : frz (.dic false [.inr "a"] [.int 1]) = .dic false [.inr "a"] [.int 1] := rfl
  have cd : cp (.dic false [.inr "a"] [.int 1]) = true := rfl
  unfold kOth
  rcases h with h | h | h | h | h | h | h
  · exact ⟨.int cell, by simp only [Mi.ev, ne_eq, not_true_eq_false, not_false_eq_true, eq_self, Int.natCast_zero, Int.reduceLT, Int.reduceLE, Int.reduceEq, Int.reduceAdd, Int.reduceSub, Int.reduceNeg, Int.reduceToNat, Int.cast_ofNat_Int, Int.zero_add, Option.map_some, Option.map_none, Option.bind_some, Option.bind_none, List.map_cons, List.map_nil, List.length_cons, List.length_nil, List.replicate, List.cons_append, List.nil_append, List.getElem?_cons_zero, List.getElem?_cons_succ, List.getElem?_nil, List.set_cons_zero, List.set_cons_succ, Nat.reduceLT, Nat.reduceLeDiff, Nat.reduceAdd, Nat.reduceSub, Nat.reduceEqDiff, reduceIte, reduceCtorEq, Nat.zero_add, decide_true, decide_false, if_true, if_false, ite_true, ite_false, Bool.not_true, Bool.not_false, Bool.and_true, Bool.true_and, Bool.or_true, Bool.true_or, Bool.or_false, Bool.false_or, decide_eq_true_eq, Bool.false_eq_true, gt_iff_lt, ge_iff_le, Mi.evo, List.getElem?_cons_zero, List.getElem?_cons_succ, h, fd, q0], not_name rfl fun s => rfl, fun s => rfl⟩
  · exact ⟨.non, by simp only [Mi.ev, ne_eq, not_true_eq_false, not_false_eq_true, eq_self, Int.natCast_zero, Int.reduceLT, Int.reduceLE, Int.reduceEq, Int.reduceAdd, Int.reduceSub, Int.reduceNeg, Int.reduceToNat, Int.cast_ofNat_Int, Int.zero_add, Option.map_some, Option.map_none, Option.bind_some, Option.bind_none, List.map_cons, List.map_nil, List.length_cons, List.length_nil, List.replicate, List.cons_append, List.nil_append, List.getElem?_cons_zero, List.getElem?_cons_succ, List.getElem?_nil, List.set_cons_zero, List.set_cons_succ, Nat.reduceLT, Nat.reduceLeDiff, Nat.reduceAdd, Nat.reduceSub, Nat.reduceEqDiff, reduceIte, reduceCtorEq, Nat.zero_add, decide_true, decide_false, if_true, if_false, ite_true, ite_false, Bool.not_true, Bool.not_false, Bool.and_true, Bool.true_and, Bool.or_true, Bool.true_or, Bool.or_false, Bool.false_or, decide_eq_true_eq, Bool.false_eq_true, gt_iff_lt, ge_iff_le, Mi.evo, List.getElem?_cons_zero, List.getElem?_cons_succ, h, fd, q1], not_name rfl fun s => rfl, fun s => rfl⟩
  · exact ⟨.bl true, by simp only [Mi.ev, ne_eq, not_true_eq_false, not_false_eq_true, eq_self, Int.natCast_zero, Int.reduceLT, Int.reduceLE, Int.reduceEq, Int.reduceAdd, Int.reduceSub, Int.reduceNeg, Int.reduceToNat, Int.cast_ofNat_Int, Int.zero_add, Option.map_some, Option.map_none, Option.bind_some, Option.bind_none, List.map_cons, List.map_nil, List.length_cons, List.length_nil, List.replicate, List.cons_append, List.nil_append, List.getElem?_cons_zero, List.getElem?_cons_succ, List.getElem?_nil, List.set_cons_zero, List.set_cons_succ, Nat.reduceLT, Nat.reduceLeDiff, Nat.reduceAdd, Nat.reduceSub, Nat.reduceEqDiff, reduceIte, reduceCtorEq, Nat.zero_add, decide_true, decide_false, if_true, if_false, ite_true, ite_false, Bool.not_true, Bool.not_false, Bool.and_true, Bool.true_and, Bool.or_true, Bool.true_or, Bool.or_false, Bool.false_or, decide_eq_true_eq, Bool.false_eq_true, gt_iff_lt, ge_iff_le, Mi.evo, List.getElem?_cons_zero, List.getElem?_cons_succ, h, fd, q2], not_name rfl fun s => rfl, fun s => rfl⟩
  · exact ⟨.lst .f [.str "a"], by simp only [Mi.ev, ne_eq, not_true_eq_false, not_false_eq_true, eq_self, Int.natCast_zero, Int.reduceLT, Int.reduceLE, Int.reduceEq, Int.reduceAdd, Int.reduceSub, Int.reduceNeg, Int.reduceToNat, Int.cast_ofNat_Int, Int.zero_add, Option.map_some, Option.map_none, Option.bind_some, Option.bind_none, List.map_cons, List.map_nil, List.length_cons, List.length_nil, List.replicate, List.cons_append, List.nil_append, List.getElem?_cons_zero, List.getElem?_cons_succ, List.getElem?_nil, List.set_cons_zero, List.set_cons_succ, Nat.reduceLT, Nat.reduceLeDiff, Nat.reduceAdd, Nat.reduceSub, Nat.reduceEqDiff, reduceIte, reduceCtorEq, Nat.zero_add, decide_true, decide_false, if_true, if_false, ite_true, ite_false, Bool.not_true, Bool.not_false, Bool.and_true, Bool.true_and, Bool.or_true, Bool.true_or, Bool.or_false, Bool.false_or, decide_eq_true_eq, Bool.false_eq_true, gt_iff_lt, ge_iff_le, Mi.evo, List.getElem?_cons_zero, List.getElem?_cons_succ, h, fd, q3], not_name rfl fun s => rfl, fun s => rfl⟩
  · exact ⟨.tup [.str "a", .str "b"], by simp only [Mi.ev, ne_eq, not_true_eq_false, not_false_eq_true, eq_self, Int.natCast_zero, Int.reduceLT, Int.reduceLE, Int.reduceEq, Int.reduceAdd, Int.reduceSub, Int.reduceNeg, Int.reduceToNat, Int.cast_ofNat_Int, Int.zero_add, Option.map_some, Option.map_none, Option.bind_some, Option.bind_none, List.map_cons, List.map_nil, List.length_cons, List.length_nil, List.replicate, List.cons_append, List.nil_append, List.getElem?_cons_zero, List.getElem?_cons_succ, List.getElem?_nil, List.set_cons_zero, List.set_cons_succ, Nat.reduceLT, Nat.reduceLeDiff, Nat.reduceAdd, Nat.reduceSub, Nat.reduceEqDiff, reduceIte, reduceCtorEq, Nat.zero_add, decide_true, decide_false, if_true, if_false, ite_true, ite_false, Bool.not_true, Bool.not_false, Bool.and_true, Bool.true_and, Bool.or_true, Bool.true_or, Bool.or_false, Bool.false_or, decide_eq_true_eq, Bool.false_eq_true, gt_iff_lt, ge_iff_le, Mi.evo, List.getElem?_cons_zero, List.getElem?_cons_succ, h, fd, q4], not_name rfl fun s => rfl, fun s => rfl⟩
  · exact ⟨.lst .f [], by simp only [Mi.ev, ne_eq, not_true_eq_false, not_false_eq_true, eq_self, Int.natCast_zero, Int.reduceLT, Int.reduceLE, Int.reduceEq, Int.reduceAdd, Int.reduceSub, Int.reduceNeg, Int.reduceToNat, Int.cast_ofNat_Int, Int.zero_add, Option.map_some, Option.map_none, Option.bind_some, Option.bind_none, List.map_cons, List.map_nil, List.length_cons, List.length_nil, List.replicate, List.cons_append, List.nil_append, List.getElem?_cons_zero, List.getElem?_cons_succ, List.getElem?_nil, List.set_cons_zero, List.set_cons_succ, Nat.reduceLT, Nat.reduceLeDiff, Nat.reduceAdd, Nat.reduceSub, Nat.reduceEqDiff, reduceIte, reduceCtorEq, Nat.zero_add, decide_true, decide_false, if_true, if_false, ite_true, ite_false, Bool.not_true, Bool.not_false, Bool.and_true, Bool.true_and, Bool.or_true, Bool.true_or, Bool.or_false, Bool.false_or, decide_eq_true_eq, Bool.false_eq_true, gt_iff_lt, ge_iff_le, Mi.evo, List.getElem?_cons_zero, List.getElem?_cons_succ, h, fd, q5], not_name rfl fun s => rfl, fun s => rfl⟩
  · exact ⟨.dic false [.inr "a"] [.int 1], by simp only [Mi.ev, ne_eq, not_true_eq_false, not_false_eq_true, eq_self, Int.natCast_zero, Int.reduceLT, Int.reduceLE, Int.reduceEq, Int.reduceAdd, Int.reduceSub, Int.reduceNeg, Int.reduceToNat, Int.cast_ofNat_Int, Int.zero_add, Option.map_some, Option.map_none, Option.bind_some, Option.bind_none, List.map_cons, List.map_nil, List.length_cons, List.length_nil, List.replicate, List.cons_append, List.nil_append, List.getElem?_cons_zero, List.getElem?_cons_succ, List.getElem?_nil, List.set_cons_zero, List.set_cons_succ, Nat.reduceLT, Nat.reduceLeDiff, Nat.reduceAdd, Nat.reduceSub, Nat.reduceEqDiff, reduceIte, reduceCtorEq, Nat.zero_add, decide_true, decide_false, if_true, if_false, ite_true, ite_false, Bool.not_true, Bool.not_false, Bool.and_true, Bool.true_and, Bool.or_true, Bool.true_or, Bool.or_false, Bool.false_or, decide_eq_true_eq, Bool.false_eq_true, gt_iff_lt, ge_iff_le, Mi.evo, List.getElem?_cons_zero, List.getElem?_cons_succ, h, fd, fd2, cd, q6], not_name rfl fun s => rfl, fun s => rfl⟩
theorem law_ok : LawOk F_law := by
  intro ns hl
  obtain ⟨z, zl, f1⟩ := law_text_eq none ns
  have g3 : F__law_cell none [.lst .r (il ns), .int 3] = _ := law_cell_eq none ns 3
  have g4 : F__law_cell none [.lst .r (il ns), .int 4] = _ := law_cell_eq none ns 4
  generalize ns.getD 3 0 = y3 at g3
  generalize ns.getD 4 0 = y4 at g4
  have hz := abs_nn2 y3
  generalize hy : (if y3 < 0 then -y3 else y3) = cell at hz
  obtain ⟨k, hk⟩ := Int.eq_ofNat_of_zero_le (show 0 ≤ cell / 7 % 35 by omega)
  obtain ⟨l, ll, lb, f4⟩ := law_row_ok none y4 k (by omega)
  have hk2 : k ≤ 34 := by omega
  have f2 := is_name_eq none z (by omega)
  have f3 := right_eq none z (by omega)
  have f5 := says_eq (nameOk z)
  have f6 := law_bytes_eq none z (by omega)
  obtain ⟨d, o1, o2, o3⟩ := oth_ok (sc := 0) (t := 0) (e := none) (a := .lst .r (il ns)) (b := .str z) (r := [none, none, none, none]) (wd := some []) hz
  have b1 := band1 (x := cell / 245) (by omega)
  have t1 : dItS (.str z) = some (chD z) := rfl
  have c1 := chD_le (z := z) (by omega)
  have hq : ∀ w : List Int, compL (turnC (mgName 6) mTrue (mFrz (mUn dOrd (mVar 6))) ⟨[some (.lst .r (il ns)), some (.str z), some (.int cell), some d, some (.lst .f (il w)), none, none], some []⟩) (chD z) = some (il (codes z)) := fun w => ord_comp 6 _ _ rfl z
  have wq : ∀ w : List Int, wipeF [some (.lst .r (il ns)), some (.str z), some (.int cell), some d, some (.lst .f (il w)), none, none] [6] = [some (.lst .r (il ns)), some (.str z), some (.int cell), some d, some (.lst .f (il w)), none, none] := fun w => rfl
  have f8 := law_codes_eq none (codes z) (by rw [codes_len]; omega)
  have f7 := law_codes_eq none l (by omega)
  have cl : l.length ≤ 16777216 := by omega
  have wf : wipeF [some (.lst .r (il ns)), some (.str z), some (.int cell), some d, some (.lst .f (il l)), none, none] [5] = [some (.lst .r (il ns)), some (.str z), some (.int cell), some d, some (.lst .f (il l)), none, none] := rfl
  have hc : compL (turnC (mgName 5) mTrue (mFrz (mBin dAdd true (mC (.int 97)) (mBin dMod true (mUn dInt (mVar 5)) (mC (.int 26))))) ⟨[some (.lst .r (il ns)), some (.str z), some (.int cell), some d, some (.lst .f (il l)), none, none], some []⟩) (il l) = some ((il l).map fun d => match d with
    | .int n => D.int (97 + n % 26)
    | _ => .non) := comp_map fun d hd => by
      obtain ⟨n, hn, rfl⟩ := List.mem_map.mp hd
      simp only [Mi.ev, ne_eq, not_true_eq_false, not_false_eq_true, eq_self, Int.natCast_zero, Int.reduceLT, Int.reduceLE, Int.reduceEq, Int.reduceAdd, Int.reduceSub, Int.reduceNeg, Int.reduceToNat, Int.cast_ofNat_Int, Int.zero_add, Option.map_some, Option.map_none, Option.bind_some, Option.bind_none, List.map_cons, List.map_nil, List.length_cons, List.length_nil, List.replicate, List.cons_append, List.nil_append, List.getElem?_cons_zero, List.getElem?_cons_succ, List.getElem?_nil, List.set_cons_zero, List.set_cons_succ, Nat.reduceLT, Nat.reduceLeDiff, Nat.reduceAdd, Nat.reduceSub, Nat.reduceEqDiff, reduceIte, reduceCtorEq, Nat.zero_add, decide_true, decide_false, if_true, if_false, ite_true, ite_false, Bool.not_true, Bool.not_false, Bool.and_true, Bool.true_and, Bool.or_true, Bool.true_or, Bool.or_false, Bool.false_or, decide_eq_true_eq, Bool.false_eq_true, gt_iff_lt, ge_iff_le, Mi.evo]
  have he : ((il l).map fun d => match d with
    | .int n => D.int (97 + n % 26)
    | _ => .non) = il (l.map fun n => 97 + n % 26) := by
    unfold il
    rw [List.map_map, List.map_map]
    rfl
  rw [he] at hc
  have l2 : (l.map fun n => 97 + n % 26).length = l.length := List.length_map ..
  generalize (l.map fun n => 97 + n % 26) = m at hc l2
  have f9 := law_codes_eq none m (by omega)
  have e1 : dIsB true (.bl false) (.bl false) = some (.bl false) := rfl
  refine ⟨some [], ?_⟩
  unfold F_law m_law
  show fnM 7 1 [] (mSeq _ (mSeq _ (mSeq _ (mSeq (mSet 3 kOth) _)))) _ [.lst .r (il ns)] = _
  generalize kOth = KO at o1 ⊢
  by_cases c : cell / 245 % 2 = 1
  · simp only [Mi.ev, ne_eq, not_true_eq_false, not_false_eq_true, eq_self, Int.natCast_zero, Int.reduceLT, Int.reduceLE, Int.reduceEq, Int.reduceAdd, Int.reduceSub, Int.reduceNeg, Int.reduceToNat, Int.cast_ofNat_Int, Int.zero_add, Option.map_some, Option.map_none, Option.bind_some, Option.bind_none, List.map_cons, List.map_nil, List.length_cons, List.length_nil, List.replicate, List.cons_append, List.nil_append, List.getElem?_cons_zero, List.getElem?_cons_succ, List.getElem?_nil, List.set_cons_zero, List.set_cons_succ, Nat.reduceLT, Nat.reduceLeDiff, Nat.reduceAdd, Nat.reduceSub, Nat.reduceEqDiff, reduceIte, reduceCtorEq, Nat.zero_add, decide_true, decide_false, if_true, if_false, ite_true, ite_false, Bool.not_true, Bool.not_false, Bool.and_true, Bool.true_and, Bool.or_true, Bool.true_or, Bool.or_false, Bool.false_or, decide_eq_true_eq, Bool.false_eq_true, gt_iff_lt, ge_iff_le, Mi.evo, f1, f2, f3, f5, f6, g3, hy, o1, o3, o2, e1, g4, hk, f4, b1, c, cl, wf, hc, f9, t1, c1, wq, hq, f8]
  · simp only [Mi.ev, ne_eq, not_true_eq_false, not_false_eq_true, eq_self, Int.natCast_zero, Int.reduceLT, Int.reduceLE, Int.reduceEq, Int.reduceAdd, Int.reduceSub, Int.reduceNeg, Int.reduceToNat, Int.cast_ofNat_Int, Int.zero_add, Option.map_some, Option.map_none, Option.bind_some, Option.bind_none, List.map_cons, List.map_nil, List.length_cons, List.length_nil, List.replicate, List.cons_append, List.nil_append, List.getElem?_cons_zero, List.getElem?_cons_succ, List.getElem?_nil, List.set_cons_zero, List.set_cons_succ, Nat.reduceLT, Nat.reduceLeDiff, Nat.reduceAdd, Nat.reduceSub, Nat.reduceEqDiff, reduceIte, reduceCtorEq, Nat.zero_add, decide_true, decide_false, if_true, if_false, ite_true, ite_false, Bool.not_true, Bool.not_false, Bool.and_true, Bool.true_and, Bool.or_true, Bool.true_or, Bool.or_false, Bool.false_or, decide_eq_true_eq, Bool.false_eq_true, gt_iff_lt, ge_iff_le, Mi.evo, f1, f2, f3, f5, f6, g3, hy, o1, o3, o2, e1, g4, hk, f4, b1, c, f7, t1, c1, wq, hq, f8]
end T60

namespace Hk
open PySem PySem.Spec PyProof.Rows He
open L2 hiding Takes XE CX takes_of passes_call MkP PMk ps_raise mk_of ps_try_as passAt pmk_own
open L2N (Takes XE CX takes_of passes_call MkP PMk ps_raise mk_of ps_try_as passAt pmk_own)
/-! ## more facts of the written part -/
inductive Fx where
  | excC (x : Str)
  | kit (x y : Str) (b : Bool)
  | subc (x y : Str) (b : Bool)
  | hasd (x : Str)
  | ninst (x : Str)
  | tup (x : Str) (vs : List Dv)
  | lst (x : Str) (vs : List Dv)
def Fx.ok (K : PySem.W.Frag) : Fx → Bool
  | .excC x => (eqO (PySem.W.findIn K (.ref (ga K x)) "__getattribute__") (some (some (.builtin "BaseException.__getattribute__"))) && (eqO (PySem.W.findIn K (.ref (ga K x)) "__getattr__") (some none) &&
      (decide (PySem.W.subIn K (.ref (ga K x)) (.type "BaseException") = some true) && (PySem.W.hasDictIn K (ga K x) && (eqO (PySem.W.findIn K (.ref (ga K x)) "__class__") (some (some (.builtin "object.__class__"))) &&
      (eqO (PySem.W.specialIn K (.builtin "object.__class__") "__get__") (some (some (.builtin "getset_descriptor.__get__"))) && (decide (PySem.W.takesIn K (.builtin "object.__class__") = some true) && decide (PySem.W.mroIn K (ga K x) (.type "object") = some true))))))))
  | .kit x y b => decide (PySem.W.kitOne K (.ref (ga K x)) (.ref (ga K y)) = some b)
  | .subc x y b => decide (PySem.W.subIn K (.ref (ga K x)) (.ref (ga K y)) = some b)
  | .hasd x => PySem.W.hasDictIn K (ga K x)
  | .ninst x => (eqO (PySem.W.findIn K (.ref (ga K x)) "__class__") (some (some (.builtin "object.__class__"))) &&
      (eqO (PySem.W.specialIn K (.builtin "object.__class__") "__get__") (some (some (.builtin "getset_descriptor.__get__"))) && (decide (PySem.W.takesIn K (.builtin "object.__class__") = some true) && decide (PySem.W.mroIn K (ga K x) (.type "object") = some true))))
  | .tup x vs => tupB K x vs
  | .lst x vs => lstB K x vs
section
variable {K : PySem.W.Frag}
theorem excC_ok {x : Str} (c : (Fx.excC x).ok K = true) : ExcC K (ga K x) := by
  obtain ⟨c1, c⟩ := ba c
  obtain ⟨c2, c⟩ := ba c
  obtain ⟨c3, c⟩ := ba c
  obtain ⟨c4, c⟩ := ba c
  obtain ⟨c5, c⟩ := ba c
  obtain ⟨c6, c⟩ := ba c
  obtain ⟨c7, c8⟩ := ba c
  exact ⟨eqO_ok c1, eqO_ok c2, of_decide_eq_true c3, c4, eqO_ok c5, eqO_ok c6, of_decide_eq_true c7, of_decide_eq_true c8⟩
theorem kit_ok {x y : Str} {b : Bool} (c : (Fx.kit x y b).ok K = true) : PySem.W.kitOne K (.ref (ga K x)) (.ref (ga K y)) = some b := of_decide_eq_true c
theorem subc_ok {x y : Str} {b : Bool} (c : (Fx.subc x y b).ok K = true) : PySem.W.subIn K (.ref (ga K x)) (.ref (ga K y)) = some b := of_decide_eq_true c
theorem hasd_ok {x : Str} (c : (Fx.hasd x).ok K = true) : PySem.W.hasDictIn K (ga K x) = true := c
theorem exc4 {x : Str} (c : (Fa.exc x).ok K = true) : PySem.W.excIn K (ga K x) [.type "ValueError", .type "Exception", .type "BaseException", .type "object"] "ValueError.__new__" = true ∧ PySem.W.keepIn K (.ref (ga K x)) = true ∧
    PySem.W.subIn K (.ref (ga K x)) (.type "BaseException") = some true ∧ PySem.W.typeIn K (.ref (ga K x)) = some (.type "type") := by
  obtain ⟨c1, c⟩ := ba c
  obtain ⟨c2, c⟩ := ba c
  obtain ⟨c3, c4⟩ := ba c
  exact ⟨c1, c2, of_decide_eq_true c3, of_decide_eq_true c4⟩
theorem keep_ok' {x : Str} (c : (Fa.keep x).ok K = true) : PySem.W.keepIn K (.ref (ga K x)) = true := c
end
theorem gvi {h : Heap} {K : PySem.W.Frag} {mg : Str → Option Value} (X : K.In h) (G : h.Ns mainGlobals mg) {x : Str} {i : Int} (c : (Fa.int x i).ok K = true) : ∃ u, mg x = some u ∧ RelV (.int i) u := let ⟨t, e⟩ := int_ok X G c; ⟨_, e, ⟨t, rfl⟩⟩
theorem gvs {h : Heap} {K : PySem.W.Frag} {mg : Str → Option Value} (X : K.In h) (G : h.Ns mainGlobals mg) {x z : Str} (c : (Fa.str x z).ok K = true) : ∃ u, mg x = some u ∧ RelV (.str z) u := let ⟨t, e⟩ := str_ok X G c; ⟨_, e, ⟨t, rfl⟩⟩
/-- as He.hookD, with these facts -/
def obsX (fa : List Fa) (fn : List DefD) (fx : List Fx) (K : PySem.W.Frag) : AlD := ((fa.all fun f => f.ok K) && ((fx.all fun f => f.ok K) && fn.all fun d => d.ok K), fn.map fun d => fnW K d.at_)
def SaysX (fa : List Fa) (fn : List DefD) (fx : List Fx) (K : PySem.W.Frag) : Prop := obsX fa fn fx K = valD fn
def obsXG (n : Nat) (fa : List Fa) (fn : List DefD) (fx : List Fx) (g : Addr → Option Obj) : AlD := obsX fa fn fx (frG g (asD g n))
def hookX (n : Nat) (fa : List Fa) (fn : List DefD) (fx : List Fx) : PySem.W.Hook where
  α := AlD
  obs := fun s => obsXG n fa fn fx s.heap.get?
  val := fun _ => valD fn
  says := fun _ h => ∃ K : PySem.W.Frag, K.In h ∧ SaysX fa fn fx K
  of := fun _ _ e => ⟨_, frG_in, e⟩
  keeps := fun _ _ _ ⟨K, hK, c⟩ k => ⟨K, PySem.W.Frag.In.keeps hK k, c⟩
theorem obsXG_eq {n : Nat} {fa : List Fa} {fn : List DefD} {fx : List Fx} {g : Addr → Option Obj} {s : Shared} (h : ∀ a, g a = s.heap.get? a) : obsXG n fa fn fx g = (hookX n fa fn fx).obs s := by
  have e : g = s.heap.get? := funext h
  rw [e] <;> rfl
section
variable {fa : List Fa} {fn : List DefD} {fx : List Fx} {K : PySem.W.Frag}
theorem SaysX.fact (c : SaysX fa fn fx K) (i : Nat) {f : Fa} (h : fa[i]? = some f := by rfl) : f.ok K = true := by
  have c1 := (ba (show ((fa.all fun f => f.ok K) && ((fx.all fun f => f.ok K) && fn.all fun d => d.ok K)) = true from congrArg (fun z : AlD => z.1) c)).1
  exact List.all_eq_true.mp c1 f (List.mem_of_getElem? h)
theorem SaysX.fxa (c : SaysX fa fn fx K) (i : Nat) {f : Fx} (h : fx[i]? = some f := by rfl) : f.ok K = true := by
  have c1 := (ba (ba (show ((fa.all fun f => f.ok K) && ((fx.all fun f => f.ok K) && fn.all fun d => d.ok K)) = true from congrArg (fun z : AlD => z.1) c)).2).1
  exact List.all_eq_true.mp c1 f (List.mem_of_getElem? h)
theorem SaysX.def_ (c : SaysX fa fn fx K) (i : Nat) {d : DefD} (h : fn[i]? = some d := by rfl) : ∃ fd, FunD K d.name d.qual d.params d.body d.scope (d.dvs K) (d.kws K) (fAd K d.at_) fd := by
  have c2 := (ba (ba (show ((fa.all fun f => f.ok K) && ((fx.all fun f => f.ok K) && fn.all fun d => d.ok K)) = true from congrArg (fun z : AlD => z.1) c)).2).2
  have e : fn.map (fun d => fnW K d.at_) = fn.map DefD.val := congrArg (fun z : AlD => z.2) c
  have e2 : (fn.map fun d => fnW K d.at_)[i]? = (fn.map DefD.val)[i]? := by rw [e]
  rw [List.getElem?_map, List.getElem?_map, h] at e2
  exact DefD.funD (Option.some.inj e2) (List.all_eq_true.mp c2 d (List.mem_of_getElem? h))
end
/-- a def of no default -/
theorem fun_of {K : PySem.W.Frag} {x qual : Str} {st : Stmt} {f : Addr} {fd : FuncData} (F : FunD K x qual (defArgs st) (defBody st) (defScope st) [] [] f fd) : Fun K x qual st f fd := by
  obtain ⟨oc, od, dV, kV, doc, pm, an, cdv, ct, osl, e, lk, hcd, hD, hK⟩ := F.ex
  rcases hD with ⟨_, rfl⟩ | ⟨e2, _⟩
  · exact ⟨⟨oc, od, kV, doc, pm, an, cdv, ct, osl, e, lk, hcd⟩, F.kp⟩
  · exact absurd rfl e2
theorem cx_none {P : Program} {w : World} (H : Hp) (s : Shared) (e : Value) (s' : Shared) (z : L2N.CX P w [] H s (fun _ _ _ => False) e s') : False := by
  obtain ⟨_, _, _, _, _, _, _, _, _, _, _, _, y⟩ := z
  exact y
theorem walk_ofX {l : PySem.W.OpenLaw} {n k : Nat} {q : Program} {loose : List Str} {XP : (Str → Option Value) → Heap → Prop} {YP : World → Heap → Prop} {d : DefRec} {x : Str}
    (hn : l.most = some n) (hn2 : n ≤ sizeLine) (hdf : d.params.defaults = []) (hr : Room k callerA)
    (F : ∀ (w : World) (mg : Str → Option Value) (fa : Addr) (h : Heap), YP w h → h.Ns mainGlobals mg → mg d.name = some (.ref fa) →
      ∃ (K : PySem.W.Frag) (fd : FuncData) (sp : Sp), K.In h ∧ (∀ (s : Shared) (u : Value), BindsTo s fd ⟨[u], []⟩ [(x, u)]) ∧
        (∀ (H : Hp) (a : Addr) (ns : List Int), ns.length ≤ n → Only H → SqL K H a (ns.map V.int) → sp [.ref a] H (fun v _ => v = .bl true) fun _ _ _ => False) ∧
        ∀ base : Heap, K.In base → base.Ns mainGlobals mg → FnOk l.prog w K mg base (L2N.CX l.prog w) k fa fd [x] sp) :
    PySem.W.WalkO q loose XP YP l.row.toRowW d [] (fun f vs => PySem.call f vs) := by
  refine Att.attach_call hn hdf fun w s₀ s₁ mg mb fa o pm cd doc a vs ns G Y ho hd hcd hmg hobj hints hlen hg => ?_
  obtain ⟨K, fd, sp, KX, hb, hsp, hF⟩ := F w mg fa _ Y G.T.g hmg
  exact law_call KX G.T.g G.T.b G.T.builtins G.T.nolimit hg hobj hints (Nat.le_trans hlen hn2) hr hF hb (fun H hO hS => hsp H a ns hlen hO hS) fun H e s' => cx_none H s₁ e s'
end Hk

namespace T60
open PySem PySem.Spec PyProof.Rows Hk Mi
open L2 hiding Takes XE CX takes_of passes_call MkP PMk ps_raise mk_of ps_try_as passAt pmk_own
open L2N (Takes XE CX takes_of passes_call MkP PMk ps_raise mk_of ps_try_as passAt pmk_own)
open L2H (HotC RoomH FnH roomH_of)
def hd__law_cell : He.DefD := ⟨("_law_cell", none), "_law_cell", "_law_cell", defArgs s__law_cell, defBody s__law_cell, defScope s__law_cell, [], []⟩
def hd__law_row : He.DefD := ⟨("_law_row", none), "_law_row", "_law_row", defArgs s__law_row, defBody s__law_row, defScope s__law_row, [], []⟩
def hd__law_signs : He.DefD := ⟨("_law_signs", none), "_law_signs", "_law_signs", defArgs s__law_signs, defBody s__law_signs, defScope s__law_signs, [], []⟩
def hd__law_char : He.DefD := ⟨("_law_char", none), "_law_char", "_law_char", defArgs s__law_char, defBody s__law_char, defScope s__law_char, [], []⟩
def hd__law_text : He.DefD := ⟨("_law_text", none), "_law_text", "_law_text", defArgs s__law_text, defBody s__law_text, defScope s__law_text, [], []⟩
def hd__law_says : He.DefD := ⟨("_law_says", none), "_law_says", "_law_says", defArgs s__law_says, defBody s__law_says, defScope s__law_says, [], []⟩
def hd__law_is_right_name : He.DefD := ⟨("_law_is_right_name", none), "_law_is_right_name", "_law_is_right_name", defArgs s__law_is_right_name, defBody s__law_is_right_name, defScope s__law_is_right_name, [], []⟩
def hd_is_name : He.DefD := ⟨("is_name", none), "is_name", "is_name", defArgs s_is_name, defBody s_is_name, defScope s_is_name, [], []⟩
def hd_name_bytes : He.DefD := ⟨("name_bytes", none), "name_bytes", "name_bytes", defArgs s_name_bytes, defBody s_name_bytes, defScope s_name_bytes, [], []⟩
def hd__law_is_integer : He.DefD := ⟨("_law_is_integer", none), "_law_is_integer", "_law_is_integer", defArgs s__law_is_integer, defBody s__law_is_integer, defScope s__law_is_integer, [], []⟩
def hd__law_is_row : He.DefD := ⟨("_law_is_row", none), "_law_is_row", "_law_is_row", defArgs s__law_is_row, defBody s__law_is_row, defScope s__law_is_row, [], []⟩
def hd_bytes_name : He.DefD := ⟨("bytes_name", none), "bytes_name", "bytes_name", defArgs s_bytes_name, defBody s_bytes_name, defScope s_bytes_name, [], []⟩
def hd__law_bytes : He.DefD := ⟨("_law_bytes", none), "_law_bytes", "_law_bytes", defArgs s__law_bytes, defBody s__law_bytes, defScope s__law_bytes, [], []⟩
def hd__law_codes : He.DefD := ⟨("_law_codes", none), "_law_codes", "_law_codes", defArgs s__law_codes, defBody s__law_codes, defScope s__law_codes, [], []⟩
def hd_law : He.DefD := ⟨("law", none), "law", "law", defArgs s_law, defBody s_law, defScope s_law, [], []⟩
def hd_fn0 : List He.DefD := [hd__law_cell, hd__law_row, hd__law_signs, hd__law_char, hd__law_text, hd__law_says, hd__law_is_right_name, hd_is_name, hd_name_bytes, hd__law_is_integer, hd__law_is_row, hd_bytes_name, hd__law_bytes, hd__law_codes, hd_law]
def hd_fn : List He.DefD := hd_fn0
def hd_fa0 : List He.Fa := [.free "abs", .free "bool", .free "int", .free "isinstance", .free "len", .free "list", .free "ord", .free "range", .free "str", .int "NAME_SIZE" 32, .str "SIGNS" "abcdefghijklmnopqrstuvwxyz0123456789-", .exc "HushError", .glo "HushError", .exc "Malformed", .glo "Malformed", .glo "_law_cell", .glo "_law_row", .glo "_law_signs", .glo "_law_char", .glo "_law_text", .glo "_law_says", .glo "_law_is_right_name", .glo "is_name", .glo "name_bytes", .glo "_law_is_integer"]
def hd_fa1 : List He.Fa := [.glo "_law_is_row", .glo "bytes_name", .glo "_law_bytes", .glo "_law_codes", .glo "law"]
def hd_fa : List He.Fa := hd_fa0 ++ hd_fa1
def hd_fx0 : List Fx := [.hasd "HushError", .hasd "Malformed", .subc "Malformed" "HushError" true, .subc "HushError" "HushError" true, .excC "Malformed", .kit "Malformed" "Malformed" true, .excC "HushError", .kit "HushError" "Malformed" false]
def hd_fx : List Fx := hd_fx0
def hd_nm0 : List Str := ["HushError", "Malformed", "SIGNS", "NAME_SIZE", "is_name", "name_bytes", "bytes_name", "_law_cell", "_law_is_integer", "_law_row", "_law_is_row", "_law_says", "_law_signs", "_law_char", "_law_text", "_law_is_right_name", "_law_bytes", "_law_codes"]
def hd_nm : List Str := hd_nm0
abbrev hd_R : PySem.W.OpenRow := PySem.W.OpenLaw.row PySem.Challenge.rw_hushlink_k60_names_of_peers
abbrev hd_k : PySem.W.Hook := hookX 4 hd_fa hd_fn hd_fx
def hd_ob (s : PySem.W.SharedT) : He.AlD := obsXG 4 hd_fa hd_fn hd_fx (HandSHeadRun.getT s)
theorem hd_eq (s : PySem.W.SharedT) : hd_ob s = hd_k.obs s.abs := obsXG_eq (HandSHeadRun.getT_eq s)
set_option maxHeartbeats 0 in
theorem hd_run (w : World) : HandSHeadRun.RunEq hd_R (PySem.W.view hd_R.prog [21]) hd_k hd_ob 60000 hd_nm w := by
  intro os
  kernel_rfl
theorem facts {P : Program} {w : World} {K : PySem.W.Frag} {h : Heap} {mg : Str → Option Value} {f : Addr} (X : K.In h) (G : h.Ns mainGlobals mg) (hfa : mg ("law" : Str) = some (.ref f)) (c : SaysX hd_fa hd_fn hd_fx K) :
    ∃ fd : FuncData, (∀ (s : Shared) (v : Value), BindsTo s fd ⟨[v], []⟩ [("_law_script", v)]) ∧ ∀ base : Heap, K.In base → base.Ns mainGlobals mg → FnOk P w K mg base (L2N.CX P w) 4 f fd ["_law_script"] (Mi.spLaw K) := by
  obtain ⟨fd_law, FD_law⟩ := c.def_ 14 (d := hd_law) rfl
  have e := hfa.symm.trans (He.glo_ok X G (c.fact 29 (f := .glo "law") rfl))
  cases e
  have b := FunD.bindsA (ps := ["_law_script"]) FD_law fun _ _ _ _ _ _ us hl => match us, hl with | [_], _ => rfl
  refine ⟨fd_law, fun s v => b s [v] rfl, fun base _ _ => ?_⟩
  have T : Txt K mg (He.ga K "HushError") (He.ga K "Malformed") := {
    n_abs := He.free_ok X G (c.fact 0 (f := .free "abs") rfl),
    n_bool := He.free_ok X G (c.fact 1 (f := .free "bool") rfl),
    n_int := He.free_ok X G (c.fact 2 (f := .free "int") rfl),
    n_isinstance := He.free_ok X G (c.fact 3 (f := .free "isinstance") rfl),
    n_len := He.free_ok X G (c.fact 4 (f := .free "len") rfl),
    n_list := He.free_ok X G (c.fact 5 (f := .free "list") rfl),
    n_ord := He.free_ok X G (c.fact 6 (f := .free "ord") rfl),
    n_range := He.free_ok X G (c.fact 7 (f := .free "range") rfl),
    n_str := He.free_ok X G (c.fact 8 (f := .free "str") rfl),
    g_NAME_SIZE := gvi X G (c.fact 9 (f := .int "NAME_SIZE" 32) rfl),
    g_SIGNS := gvs X G (c.fact 10 (f := .str "SIGNS" "abcdefghijklmnopqrstuvwxyz0123456789-") rfl),
    gc_HushError := He.glo_ok X G (c.fact 12 (f := .glo "HushError") rfl),
    x_HushError := (exc4 (c.fact 11 (f := .exc "HushError") rfl)).1,
    k_HushError := (exc4 (c.fact 11 (f := .exc "HushError") rfl)).2.1,
    b_HushError := (exc4 (c.fact 11 (f := .exc "HushError") rfl)).2.2.1,
    t_HushError := (exc4 (c.fact 11 (f := .exc "HushError") rfl)).2.2.2,
    h_HushError := hasd_ok (c.fxa 0 (f := .hasd "HushError") rfl),
    gc_Malformed := He.glo_ok X G (c.fact 14 (f := .glo "Malformed") rfl),
    x_Malformed := (exc4 (c.fact 13 (f := .exc "Malformed") rfl)).1,
    k_Malformed := (exc4 (c.fact 13 (f := .exc "Malformed") rfl)).2.1,
    b_Malformed := (exc4 (c.fact 13 (f := .exc "Malformed") rfl)).2.2.1,
    t_Malformed := (exc4 (c.fact 13 (f := .exc "Malformed") rfl)).2.2.2,
    h_Malformed := hasd_ok (c.fxa 1 (f := .hasd "Malformed") rfl),
    sub_HushError := tab_ok (P := fun y b => PySem.W.exmOne K (.ref (caF (He.ga K "HushError") (He.ga K "Malformed") y)) (.ref (He.ga K "HushError")) = some b) (List.forall_mem_cons.mpr ⟨PySem.W.exm_ref (exc4 (c.fact 11 (f := .exc "HushError") rfl)).2.2.1 (hasd_ok (c.fxa 0 (f := .hasd "HushError") rfl)) (exc4 (c.fact 11 (f := .exc "HushError") rfl)).2.2.2 (subc_ok (c.fxa 3 (f := .subc "HushError" "HushError" true) rfl)), List.forall_mem_cons.mpr ⟨PySem.W.exm_ref (exc4 (c.fact 11 (f := .exc "HushError") rfl)).2.2.1 (hasd_ok (c.fxa 0 (f := .hasd "HushError") rfl)) (exc4 (c.fact 11 (f := .exc "HushError") rfl)).2.2.2 (subc_ok (c.fxa 2 (f := .subc "Malformed" "HushError" true) rfl)), List.forall_mem_nil _⟩⟩),
    kit_Malformed := tab_ok (P := fun y b => ExcC K (caF (He.ga K "HushError") (He.ga K "Malformed") y) ∧ PySem.W.kitOne K (.ref (caF (He.ga K "HushError") (He.ga K "Malformed") y)) (.ref (He.ga K "Malformed")) = some b) (List.forall_mem_cons.mpr ⟨⟨excC_ok (c.fxa 6 (f := .excC "HushError") rfl), kit_ok (c.fxa 7 (f := .kit "HushError" "Malformed" false) rfl)⟩, List.forall_mem_cons.mpr ⟨⟨excC_ok (c.fxa 4 (f := .excC "Malformed") rfl), kit_ok (c.fxa 5 (f := .kit "Malformed" "Malformed" true) rfl)⟩, List.forall_mem_nil _⟩⟩) }
  obtain ⟨fd__law_cell, FD__law_cell⟩ := c.def_ 0 (d := hd__law_cell) rfl
  have FF__law_cell := fun_of (st := s__law_cell) FD__law_cell
  have B__law_cell := FF__law_cell.binds (ps := ["_law_script", "_law_k"]) fun _ _ _ _ _ _ us hl => match us, hl with | [_, _], _ => rfl
  have G__law_cell : GF P w K mg base "_law_cell" 1 ["_law_script", "_law_k"] (spF (G_ K (He.ga K "HushError") (He.ga K "Malformed")) [] F__law_cell) := ⟨_, _, He.glo_ok X G (c.fact 15 (f := .glo "_law_cell") rfl), FD__law_cell.kp, B__law_cell, ok__law_cell (P := P) (w := w) (base := base) FF__law_cell T ⟩
  obtain ⟨fd__law_row, FD__law_row⟩ := c.def_ 1 (d := hd__law_row) rfl
  have FF__law_row := fun_of (st := s__law_row) FD__law_row
  have B__law_row := FF__law_row.binds (ps := ["_law_cell_here", "_law_count"]) fun _ _ _ _ _ _ us hl => match us, hl with | [_, _], _ => rfl
  have G__law_row : GF P w K mg base "_law_row" 1 ["_law_cell_here", "_law_count"] (spF (G_ K (He.ga K "HushError") (He.ga K "Malformed")) [] F__law_row) := ⟨_, _, He.glo_ok X G (c.fact 16 (f := .glo "_law_row") rfl), FD__law_row.kp, B__law_row, ok__law_row (P := P) (w := w) (base := base) FF__law_row T ⟩
  obtain ⟨fd__law_signs, FD__law_signs⟩ := c.def_ 2 (d := hd__law_signs) rfl
  have FF__law_signs := fun_of (st := s__law_signs) FD__law_signs
  have B__law_signs := FF__law_signs.binds (ps := []) fun _ _ _ _ _ _ us hl => match us, hl with | [], _ => rfl
  have G__law_signs : GF P w K mg base "_law_signs" 1 [] (spF (G_ K (He.ga K "HushError") (He.ga K "Malformed")) [] F__law_signs) := ⟨_, _, He.glo_ok X G (c.fact 17 (f := .glo "_law_signs") rfl), FD__law_signs.kp, B__law_signs, ok__law_signs (P := P) (w := w) (base := base) FF__law_signs T ⟩
  have GH__law_signs : GFH P w K mg base "_law_signs" 1 [] (spF (G_ K (He.ga K "HushError") (He.ga K "Malformed")) [] F__law_signs) := ⟨_, _, He.glo_ok X G (c.fact 17 (f := .glo "_law_signs") rfl), FD__law_signs.kp, B__law_signs, okh__law_signs (P := P) (w := w) (base := base) FF__law_signs T ⟩
  obtain ⟨fd__law_char, FD__law_char⟩ := c.def_ 3 (d := hd__law_char) rfl
  have FF__law_char := fun_of (st := s__law_char) FD__law_char
  have B__law_char := FF__law_char.binds (ps := ["_law_cell_here"]) fun _ _ _ _ _ _ us hl => match us, hl with | [_], _ => rfl
  have G__law_char : GF P w K mg base "_law_char" 2 ["_law_cell_here"] (spF (G_ K (He.ga K "HushError") (He.ga K "Malformed")) [] F__law_char) := ⟨_, _, He.glo_ok X G (c.fact 18 (f := .glo "_law_char") rfl), FD__law_char.kp, B__law_char, ok__law_char (P := P) (w := w) (base := base) FF__law_char T G__law_signs⟩
  obtain ⟨fd__law_text, FD__law_text⟩ := c.def_ 4 (d := hd__law_text) rfl
  have FF__law_text := fun_of (st := s__law_text) FD__law_text
  have B__law_text := FF__law_text.binds (ps := ["_law_script"]) fun _ _ _ _ _ _ us hl => match us, hl with | [_], _ => rfl
  have G__law_text : GF P w K mg base "_law_text" 3 ["_law_script"] (spF (G_ K (He.ga K "HushError") (He.ga K "Malformed")) [] F__law_text) := ⟨_, _, He.glo_ok X G (c.fact 19 (f := .glo "_law_text") rfl), FD__law_text.kp, B__law_text, ok__law_text (P := P) (w := w) (base := base) FF__law_text T G__law_cell G__law_row G__law_char G__law_signs⟩
  obtain ⟨fd__law_says, FD__law_says⟩ := c.def_ 5 (d := hd__law_says) rfl
  have FF__law_says := fun_of (st := s__law_says) FD__law_says
  have B__law_says := FF__law_says.binds (ps := ["_law_actual", "_law_expected"]) fun _ _ _ _ _ _ us hl => match us, hl with | [_, _], _ => rfl
  have G__law_says : GF P w K mg base "_law_says" 1 ["_law_actual", "_law_expected"] (spF (G_ K (He.ga K "HushError") (He.ga K "Malformed")) [] F__law_says) := ⟨_, _, He.glo_ok X G (c.fact 20 (f := .glo "_law_says") rfl), FD__law_says.kp, B__law_says, ok__law_says (P := P) (w := w) (base := base) FF__law_says T ⟩
  obtain ⟨fd__law_is_right_name, FD__law_is_right_name⟩ := c.def_ 6 (d := hd__law_is_right_name) rfl
  have FF__law_is_right_name := fun_of (st := s__law_is_right_name) FD__law_is_right_name
  have B__law_is_right_name := FF__law_is_right_name.binds (ps := ["_law_text_here"]) fun _ _ _ _ _ _ us hl => match us, hl with | [_], _ => rfl
  have G__law_is_right_name : GF P w K mg base "_law_is_right_name" 2 ["_law_text_here"] (spF (G_ K (He.ga K "HushError") (He.ga K "Malformed")) [] F__law_is_right_name) := ⟨_, _, He.glo_ok X G (c.fact 21 (f := .glo "_law_is_right_name") rfl), FD__law_is_right_name.kp, B__law_is_right_name, ok__law_is_right_name (P := P) (w := w) (base := base) FF__law_is_right_name T G__law_signs⟩
  have GH__law_is_right_name : GFH P w K mg base "_law_is_right_name" 2 ["_law_text_here"] (spF (G_ K (He.ga K "HushError") (He.ga K "Malformed")) [] F__law_is_right_name) := ⟨_, _, He.glo_ok X G (c.fact 21 (f := .glo "_law_is_right_name") rfl), FD__law_is_right_name.kp, B__law_is_right_name, okh__law_is_right_name (P := P) (w := w) (base := base) FF__law_is_right_name T GH__law_signs⟩
  obtain ⟨fd_is_name, FD_is_name⟩ := c.def_ 7 (d := hd_is_name) rfl
  have FF_is_name := fun_of (st := s_is_name) FD_is_name
  have B_is_name := FF_is_name.binds (ps := ["value"]) fun _ _ _ _ _ _ us hl => match us, hl with | [_], _ => rfl
  have G_is_name : GF P w K mg base "is_name" 1 ["value"] (spF (G_ K (He.ga K "HushError") (He.ga K "Malformed")) [] F_is_name) := ⟨_, _, He.glo_ok X G (c.fact 22 (f := .glo "is_name") rfl), FD_is_name.kp, B_is_name, ok_is_name (P := P) (w := w) (base := base) FF_is_name T ⟩
  obtain ⟨fd_name_bytes, FD_name_bytes⟩ := c.def_ 8 (d := hd_name_bytes) rfl
  have FF_name_bytes := fun_of (st := s_name_bytes) FD_name_bytes
  have B_name_bytes := FF_name_bytes.binds (ps := ["name"]) fun _ _ _ _ _ _ us hl => match us, hl with | [_], _ => rfl
  have G_name_bytes : GF P w K mg base "name_bytes" 2 ["name"] (spF (G_ K (He.ga K "HushError") (He.ga K "Malformed")) [] F_name_bytes) := ⟨_, _, He.glo_ok X G (c.fact 23 (f := .glo "name_bytes") rfl), FD_name_bytes.kp, B_name_bytes, ok_name_bytes (P := P) (w := w) (base := base) FF_name_bytes T G_is_name⟩
  obtain ⟨fd__law_is_integer, FD__law_is_integer⟩ := c.def_ 9 (d := hd__law_is_integer) rfl
  have FF__law_is_integer := fun_of (st := s__law_is_integer) FD__law_is_integer
  have B__law_is_integer := FF__law_is_integer.binds (ps := ["_law_actual"]) fun _ _ _ _ _ _ us hl => match us, hl with | [_], _ => rfl
  have G__law_is_integer : GF P w K mg base "_law_is_integer" 1 ["_law_actual"] (spF (G_ K (He.ga K "HushError") (He.ga K "Malformed")) [] F__law_is_integer) := ⟨_, _, He.glo_ok X G (c.fact 24 (f := .glo "_law_is_integer") rfl), FD__law_is_integer.kp, B__law_is_integer, ok__law_is_integer (P := P) (w := w) (base := base) FF__law_is_integer T ⟩
  obtain ⟨fd__law_is_row, FD__law_is_row⟩ := c.def_ 10 (d := hd__law_is_row) rfl
  have FF__law_is_row := fun_of (st := s__law_is_row) FD__law_is_row
  have B__law_is_row := FF__law_is_row.binds (ps := ["_law_actual", "_law_count"]) fun _ _ _ _ _ _ us hl => match us, hl with | [_, _], _ => rfl
  have G__law_is_row : GF P w K mg base "_law_is_row" 2 ["_law_actual", "_law_count"] (spF (G_ K (He.ga K "HushError") (He.ga K "Malformed")) [] F__law_is_row) := ⟨_, _, He.glo_ok X G (c.fact 25 (f := .glo "_law_is_row") rfl), FD__law_is_row.kp, B__law_is_row, ok__law_is_row (P := P) (w := w) (base := base) FF__law_is_row T G__law_is_integer⟩
  obtain ⟨fd_bytes_name, FD_bytes_name⟩ := c.def_ 11 (d := hd_bytes_name) rfl
  have FF_bytes_name := fun_of (st := s_bytes_name) FD_bytes_name
  have B_bytes_name := FF_bytes_name.binds (ps := ["data"]) fun _ _ _ _ _ _ us hl => match us, hl with | [_], _ => rfl
  have G_bytes_name : GF P w K mg base "bytes_name" 2 ["data"] (spF (G_ K (He.ga K "HushError") (He.ga K "Malformed")) [] F_bytes_name) := ⟨_, _, He.glo_ok X G (c.fact 26 (f := .glo "bytes_name") rfl), FD_bytes_name.kp, B_bytes_name, ok_bytes_name (P := P) (w := w) (base := base) FF_bytes_name T G_is_name⟩
  obtain ⟨fd__law_bytes, FD__law_bytes⟩ := c.def_ 12 (d := hd__law_bytes) rfl
  have FF__law_bytes := fun_of (st := s__law_bytes) FD__law_bytes
  have B__law_bytes := FF__law_bytes.binds (ps := ["_law_text_here"]) fun _ _ _ _ _ _ us hl => match us, hl with | [_], _ => rfl
  have G__law_bytes : GF P w K mg base "_law_bytes" 3 ["_law_text_here"] (spF (G_ K (He.ga K "HushError") (He.ga K "Malformed")) [] F__law_bytes) := ⟨_, _, He.glo_ok X G (c.fact 27 (f := .glo "_law_bytes") rfl), FD__law_bytes.kp, B__law_bytes, ok__law_bytes (P := P) (w := w) (base := base) FF__law_bytes T G_name_bytes G__law_is_right_name GH__law_is_right_name G__law_is_row G_bytes_name⟩
  obtain ⟨fd__law_codes, FD__law_codes⟩ := c.def_ 13 (d := hd__law_codes) rfl
  have FF__law_codes := fun_of (st := s__law_codes) FD__law_codes
  have B__law_codes := FF__law_codes.binds (ps := ["_law_codes_here"]) fun _ _ _ _ _ _ us hl => match us, hl with | [_], _ => rfl
  have G__law_codes : GF P w K mg base "_law_codes" 3 ["_law_codes_here"] (spF (G_ K (He.ga K "HushError") (He.ga K "Malformed")) [] F__law_codes) := ⟨_, _, He.glo_ok X G (c.fact 28 (f := .glo "_law_codes") rfl), FD__law_codes.kp, B__law_codes, ok__law_codes (P := P) (w := w) (base := base) FF__law_codes T G__law_signs G_bytes_name⟩
  exact (ok_law (P := P) (w := w) (base := base) (fun_of (st := s_law) FD_law) T G__law_text G__law_says G__law_is_right_name G_is_name G__law_bytes G__law_cell G__law_row G__law_codes).imp fun vs H Q E h => sp_law law_ok h
end T60
open PySem PySem.W PySem.Calls PyProof.Rows
set_option maxHeartbeats 0 in
theorem PySem.Challenge.cw_hushlink_k60_names_of_peers_holds : PySem.Challenge.rw_hushlink_k60_names_of_peers.Holds := by
  w_on; o_law
  refine HandSHeadRun.head_any (r := OpenLaw.row PySem.Challenge.rw_hushlink_k60_names_of_peers) (q := view (OpenLaw.row PySem.Challenge.rw_hushlink_k60_names_of_peers).prog [21]) (H := T60.hd_k) (ob := T60.hd_ob) (M := 60000) (loose := T60.hd_nm) (d := HandSHeadRun.topDef (OpenLaw.row PySem.Challenge.rw_hushlink_k60_names_of_peers).prog 21) (kwd := []) T60.hd_eq
    (by kernel_rfl) (fun s => by kernel_rfl) T60.hd_run (by kernel_rfl) (by kernel_rfl) (by kernel_rfl) (by rfl) (by first | assumption | decide +kernel) (by decide +kernel) ⟨rfl, rfl, rfl, rfl, rfl, by decide +kernel⟩ ?hw ?hc
  case hw => w_witness2
  case hc =>
    refine Hk.walk_ofX (l := PySem.Challenge.rw_hushlink_k60_names_of_peers) (n := 63) (k := 4) (x := "_law_script") rfl (by decide) (by kernel_rfl) ⟨rfl, by decide, by decide⟩ ?F
    intro w mg fa h Y G hmg0
    obtain ⟨K, KX, c⟩ := Y
    have hmg : mg ("law" : PySem.Str) = some (.ref fa) := by
      have e : (HandSHeadRun.topDef (OpenLaw.row PySem.Challenge.rw_hushlink_k60_names_of_peers).prog 21).name = ("law" : PySem.Str) := by kernel_rfl
      rw [← e]
      exact hmg0
    obtain ⟨fd, hb, hF⟩ := T60.facts (P := (PySem.Challenge.rw_hushlink_k60_names_of_peers).prog) (w := w) KX G hmg c
    exact ⟨K, fd, Mi.spLaw K, KX, hb, fun H a ns hl _ hS => ⟨a, ns, rfl, hS, hl, fun _ => rfl⟩, hF⟩
