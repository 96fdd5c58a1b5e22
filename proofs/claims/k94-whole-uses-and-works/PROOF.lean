import PyProof.Rows.All
import Wide.All
import OpenK.AllK
import Wide.FinOn
import HandS.ForMost
import HandS.Property
import HandS.IsInst
import HandS.DictComp
import HandS.Strs
import HandS.Conv
import HandS.Star
import HandS.MakeKwOnly
import HandS.More
import HandS.Flow
import HandS.TryOnly
import HandS.Walk
import HandS.Defaults
import HandS.HeadHook4
import KE.KStateDown
import HandS.Ends
import HandS.Words
import HandS.WordsExc
import HandS.Head0
import HandS.Head1
import HandS.Head2
import HandS.HeadEnd
import HandS.DictSubView
import HandS.Sort
import PySem.Challenge.RW_heldlives_k94_whole_uses_and_works_at_on
set_option Elab.async false
set_option linter.all false
set_option maxRecDepth 100000
set_option maxHeartbeats 2000000
/-! rules of our own over the hand layer -/
namespace K94
open PySem PySem.Spec PyProof.Rows L2

/-! ### fields and properties, the class known -/
/-- e.f where e is an instance of the class at C whose field g holds the value -/
def tPF (C : Addr) (g : Str) (ta : TE) : TE := fun σ H Q => ta σ H fun x H1 => ∃ a dx fs v, x = .ref a ∧ H1 a = some (.ins C dx fs) ∧ fs.lookup g = some v ∧ Q v H1
def sPF (C : Addr) (f : Str) (ta tv : TE) : TS := fun D σ H => tv σ H fun y H1 => ta σ H1 fun x H2 => ∃ a dx fs, x = .ref a ∧ H2 a = some (.ins C dx fs) ∧ fs.length < 1000 ∧ D.nx σ (upd H2 a (.ins C dx (putF f y fs)))
section
variable {X : Cx} {o e value : Expr} {f : Str} {pos pos' tpos : Pos} {ta tv : TE} {C : Addr}
theorem pe_f (he : PE X e ta) (c : Cls X.K C) (n : NoAttr X.K C f) (hb : attributeBase e f X.env (eval e X.env) = eval e X.env := by rfl) : PE X (.Attribute e f pos) (tPF C f ta) := by
  refine ⟨fun pins s σ H Q I h => ?_⟩
  refine attr_of hb (thn (he.run pins s σ H _ I h) fun u s1 ⟨x, H1, I1, rx, a, dx, fs, v, ex, ea, l, q⟩ => ?_)
  subst ex
  obtain rfl : u = Value.ref a := rx
  exact getattr_ok I1 ea c n l fun u' s2 I2 ru => ⟨v, H1, I2, ru, q⟩
theorem ps_f (ha : PE X o ta) (hv : PE X value tv) (c : Cls X.K C) (n : NoAttr X.K C f) (hs : swapsWith value (some (.Attribute o f pos')) pos.line X.env = pure false := by rfl) : PS X (.Assign [.Attribute o f pos'] value pos) (sPF C f ta tv) := by
  refine ⟨fun pins s σ H D I h => ?_⟩
  refine plainObj_wpAny_Assign_Attribute (thn (hv.run pins s σ H _ I h) fun u s1 ⟨y, H1, I1, ry, q⟩ => thn (ha.run pins s1 σ H1 _ I1 q) fun ov s2 ⟨x, H2, I2, rx, a, dx, fs, ex, ea, l, q2⟩ => ?_) hs
  subst ex
  obtain rfl : ov = Value.ref a := rx
  exact setattr_ok I2 ea c n l ry fun s3 I3 => ⟨σ, _, I3, q2⟩
end

/-- a statement, then the rest, with a word between them -/
def tCut (t u : TS) : TS := fun D σ H => ∃ Mid : L2.St → Hp → Prop, t { D with nx := Mid } σ H ∧ ∀ σ' H', Mid σ' H' → u D σ' H'
theorem pss_cut {X : Cx} {st : Stmt} {rest : List Stmt} {t u : TS} (h1 : PS X st t) (h2 : PSs X rest u) : PSs X (st :: rest) (tCut t u) := by
  refine ⟨fun pins s σ H D I h => ?_⟩
  obtain ⟨Mid, hm, hu⟩ := h
  refine wpAny_execs_cons (thn (h1.run pins s σ H { D with nx := Mid } I hm) fun f s1 q => ?_)
  cases f with
  | next =>
    obtain ⟨σ', H', I', q⟩ := q
    exact h2.run pins s1 σ' H' D I' (hu σ' H' q)
  | ret v => exact q
  | brk => exact q
  | cont => exact q
/-! ### callees, their objects hidden -/
section
variable (P : Program) (w : World) (K : PySem.W.Frag) (mg : Str → Option Value) (base : Heap)
/-- a def of the module -/
def GF (k : Nat) (x : Str) (ps : List Str) (sp : Sp) : Prop := ∃ f fd, FnOk P w K mg base CX0 k f fd ps sp ∧ mg x = some (.ref f) ∧ PySem.W.keepIn K (.ref f) = true ∧ Binds K fd ps []
/-- a method of the class at C -/
def GM (k : Nat) (C : Addr) (m : Str) (ps : List Str) (sp : Sp) : Prop := ∃ f fd, FnOk P w K mg base CX0 k f fd ps sp ∧ Cls K C ∧ Meth K C m f ∧ Binds K fd ps []
/-- a property of the class at C -/
def GP (k : Nat) (C : Addr) (m : Str) (sp : Sp) : Prop := ∃ p f fd, FnOk P w K mg base CX0 k f fd ["self"] sp ∧ Cls K C ∧ PropOf K C m p f ∧ Binds K fd ["self"] []
/-- a class that is made by a call with all its arguments -/
def GC (k : Nat) (x : Str) (C : Addr) (ps : List Str) (sp : Sp) : Prop := ∃ f fd, FnOk P w K mg base CX0 k f fd ps sp ∧ mg x = some (.ref C) ∧ Mk K C f ∧ Binds K fd ps []
end
section
variable {P : Program} {w : World} {K : PySem.W.Frag} {mg : Str → Option Value} {base : Heap}
theorem GF.mono {j k : Nat} {x : Str} {ps : List Str} {sp : Sp} (h : GF P w K mg base j x ps sp) (q : j ≤ k) : GF P w K mg base k x ps sp := by
  obtain ⟨f, fd, a, b⟩ := h
  exact ⟨f, fd, a.mono q, b⟩
theorem GM.mono {j k : Nat} {C : Addr} {x : Str} {ps : List Str} {sp : Sp} (h : GM P w K mg base j C x ps sp) (q : j ≤ k) : GM P w K mg base k C x ps sp := by
  obtain ⟨f, fd, a, b⟩ := h
  exact ⟨f, fd, a.mono q, b⟩
theorem GP.mono {j k : Nat} {C : Addr} {x : Str} {sp : Sp} (h : GP P w K mg base j C x sp) (q : j ≤ k) : GP P w K mg base k C x sp := by
  obtain ⟨p, f, fd, a, b⟩ := h
  exact ⟨p, f, fd, a.mono q, b⟩
theorem GC.mono {j k : Nat} {C : Addr} {x : Str} {ps : List Str} {sp : Sp} (h : GC P w K mg base j x C ps sp) (q : j ≤ k) : GC P w K mg base k x C ps sp := by
  obtain ⟨f, fd, a, b⟩ := h
  exact ⟨f, fd, a.mono q, b⟩
end
section
variable {X : Cx} {k : Nat} {C : Addr} {ps : List Str} {sp : Sp} {x m f : Str} {p pos apos : Pos} {e o : Expr} {es : List Expr} {ta : TE} {t : TA}
theorem pe_g (G : GF X.prog X.w X.K X.mg X.base k x ps sp) (hr : Room k X.A) (ha : PA X (e :: es) t) (hg : Gl X x := by rfl)
    (hdb : (x == ("__debug__" : Str)) = false := by decide) (he : starEach (e :: es) X.env = (false, eval e X.env) :: starEach es X.env := by rfl) (hpl : (backTo pos (starEach es X.env)).any (·.1) = false := by rfl) :
    PE X (.Call (.Name x p) (e :: es) [] pos) (tCall sp [] E0 t) := by
  obtain ⟨f, fd, F, hm, hk, hb⟩ := G
  exact pe_call F hr hg hm hk hb .nil pass0 ha hdb he hpl
theorem pe_m {pl : Sem Bool} (G : GM X.prog X.w X.K X.mg X.base k C m ps sp) (hr : Room k X.A) (he : PE X o ta) (ha : PA X (e :: es) t)
    (hst : starEach (e :: es) X.env = (false, eval e X.env) :: starEach es X.env := by rfl) (hpl : (backTo pos (starEach es X.env)).any (·.1) = false := by rfl)
    (ht : eval (.Call (.Attribute o m apos) (e :: es) [] pos) X.env = (do
      let ov ← eval o X.env
      standAt apos.atName
      let (f, first) ← holding [ov] (getMethod ov m pl)
      callWith pos f first (backTo pos (starEach (e :: es) X.env)) (backToKw pos (keywordEach [] X.env))) := by rfl) :
    PE X (.Call (.Attribute o m apos) (e :: es) [] pos) (tMeth C m sp [] E0 ta t) := by
  obtain ⟨f, fd, F, c, hm, hb⟩ := G
  exact pe_meth he c hm F hr hb .nil pass0 ha hst hpl ht
theorem pe_m0 {pl : Sem Bool} (G : GM X.prog X.w X.K X.mg X.base k C m ps sp) (hr : Room k X.A) (he : PE X o ta)
    (ht : eval (.Call (.Attribute o m apos) [] [] pos) X.env = (do
      let ov ← eval o X.env
      standAt apos.atName
      let (f, first) ← holding [ov] (getMethod ov m pl)
      callWith pos f first (backTo pos (starEach [] X.env)) (backToKw pos (keywordEach [] X.env))) := by rfl) :
    PE X (.Call (.Attribute o m apos) [] [] pos) (tMeth C m sp [] E0 ta tNil) := by
  obtain ⟨f, fd, F, c, hm, hb⟩ := G
  exact pe_meth0 he c hm F hr hb .nil pass0 ht
theorem pe_p (G : GP X.prog X.w X.K X.mg X.base k C f sp) (hr : Room (k + 1) X.A) (he : PE X e ta) (hab : attributeBase e f X.env (eval e X.env) = eval e X.env := by rfl) : PE X (.Attribute e f pos) (tProp C sp [] E0 ta) := by
  obtain ⟨p, g, fd, F, c, hp, hb⟩ := G
  exact pe_prop he c hp F hr hb .nil pass0 hab
theorem pe_c (G : GC X.prog X.w X.K X.mg X.base k x C ps sp) (hr : Room (k + 1) X.A) (ha : PA X (e :: es) t) (hg : Gl X x := by rfl)
    (hdb : (x == ("__debug__" : Str)) = false := by decide) (he : starEach (e :: es) X.env = (false, eval e X.env) :: starEach es X.env := by rfl) (hpl : (backTo pos (starEach es X.env)).any (·.1) = false := by rfl) :
    PE X (.Call (.Name x p) (e :: es) [] pos) (tMake C sp [] E0 t) := by
  obtain ⟨f, fd, F, hm, M, hb⟩ := G
  exact pe_make M F hr hg hm hb .nil pass0 ha hdb he hpl
/-- a property that hands back the field g -/
def PR (P : Program) (w : World) (K : PySem.W.Frag) (mg : Str → Option Value) (base : Heap) (C : Addr) (f g : Str) : Prop := GP P w K mg base 1 C f (getSp C g)
theorem pe_pr {g : Str} (G : PR X.prog X.w X.K X.mg X.base C f g) (hr : Room 2 X.A) (he : PE X e ta) (hab : attributeBase e f X.env (eval e X.env) = eval e X.env := by rfl) : PE X (.Attribute e f pos) (tPF C g ta) := by
  obtain ⟨p, gg, fd, F, c, hp, hb⟩ := G
  refine ⟨fun pins s σ H Q I h => ?_⟩
  refine attr_of hab (thn (he.run pins s σ H _ I h) fun u s1 ⟨x, H1, I1, rx, a, dx, fs, v, ex, ea, l, q⟩ => ?_)
  subst ex
  obtain rfl : u = Value.ref a := rx
  exact getprop_ok I1 ea c hp F hr hb .nil pass0 ⟨a, dx, fs, v, rfl, ea, l, q⟩

/-! ### constants of the module -/
theorem pe_gi {i : Int} (h : ∃ t, X.mg x = some (.int i t)) (hg : Gl X x := by rfl) (hd : (x == ("__debug__" : Str)) = false := by decide) : PE X (.Name x pos) (tC (.int i)) := by
  obtain ⟨t, h⟩ := h
  exact pe_glob hg h ⟨t, rfl⟩ hd
theorem pe_gs {z : Str} (h : ∃ t, X.mg x = some (.str z t)) (hg : Gl X x := by rfl) (hd : (x == ("__debug__" : Str)) = false := by decide) : PE X (.Name x pos) (tC (.str z)) := by
  obtain ⟨t, h⟩ := h
  exact pe_glob hg h ⟨t, rfl⟩ hd
theorem pe_gr {a : Addr} (h : X.mg x = some (.ref a)) (hg : Gl X x := by rfl) (hd : (x == ("__debug__" : Str)) = false := by decide) : PE X (.Name x pos) (tC (.ref a)) := pe_glob hg h rfl hd

/-- THE RULE for a def that lets nothing out -/
theorem okD {P : Program} {w : World} {K : PySem.W.Frag} {mg : Str → Option Value} {base : Heap} {x qual : Str} {params : Arguments} {body : List Stmt} {scope : Scope} {dvs : List V} {kws : List (Str × V)} {f : Addr} {fd : FuncData} {N ps : List Str} {k : Nat} {sp : Sp}
    (F : FunD K x qual params body scope dvs kws f fd) (S : FnScope N ps scope) (len : ∀ vs H Q E, sp vs H Q E → vs.length = ps.length)
    (hbody : ∀ (cdv : Value) (A : Around) (outer : List Env) (s : Shared) (H : Hp) (vs : List V) (Q : VK) (E : XK), Room k (A.deeper (envOfC qual scope s.heap.objs.size f cdv)) → sp vs H Q E →
      ∃ t, PSs (cxOf CX0 P w K mg base N qual scope f cdv A outer s H E).nox body t ∧ t { nx := fun _ H' => Q .non H', rt := Q } (start N vs) H) : FnOk P w K mg base CX0 (k + 1) f fd ps sp :=
  F.ok S len fun cdv A outer s H vs Q E hr h => by
    obtain ⟨t, a, b⟩ := hbody cdv A outer s H vs Q E hr h
    exact ⟨t, PSs.nox a, b⟩
/-! ### own __contains__, __getitem__ -/
/-- x in o, by o's own method -/
def rOwnIn (C : Addr) (sp : Sp) (neg : Bool) : R2 := fun x y H Q => ∃ a dx fs, y = .ref a ∧ H a = some (.ins C dx fs) ∧ sp [.ref a, x] H (fun v H' => ∃ b, v = .bl b ∧ Q (.bl (if neg then !b else b)) H') E0
theorem op_own_in (G : GM X.prog X.w X.K X.mg X.base k C "__contains__" ps sp) (hr : Room k X.A) : OpR X (compareOp .In) (rOwnIn C sp false) := by
  obtain ⟨f, fd, F, c, hm, hb⟩ := G
  intro pins s σ H x y v u Q I rx ry h
  obtain ⟨a, dx, fs, rfl, ea, q⟩ := h
  cases ry
  obtain ⟨mA, J, _⟩ := ins_get I.hok ea
  obtain ⟨od, J, _⟩ := J.look
  obtain ⟨m, hF⟩ := I.fr
  refine PySem.W.in_K hF I.ok.mod.kin J hm.at_ hm.fn (thn (run_fn (us := [.ref a, v]) (vs := [.ref a, x]) F hr hb .nil pass0 I (.cons rfl (.cons rx .nil)) q) fun r s1 ⟨z, H1, I1, rz, b, ez, q1⟩ => ?_)
  subst ez
  cases rz
  exact wpAny_truthy_bool ⟨.bl _, H1, I1, rfl, q1⟩
theorem op_own_notin (G : GM X.prog X.w X.K X.mg X.base k C "__contains__" ps sp) (hr : Room k X.A) : OpR X (compareOp .NotIn) (rOwnIn C sp true) := by
  obtain ⟨f, fd, F, c, hm, hb⟩ := G
  intro pins s σ H x y v u Q I rx ry h
  obtain ⟨a, dx, fs, rfl, ea, q⟩ := h
  cases ry
  obtain ⟨mA, J, _⟩ := ins_get I.hok ea
  obtain ⟨od, J, _⟩ := J.look
  obtain ⟨m, hF⟩ := I.fr
  refine PySem.W.notIn_K hF I.ok.mod.kin J hm.at_ hm.fn (thn (run_fn (us := [.ref a, v]) (vs := [.ref a, x]) F hr hb .nil pass0 I (.cons rfl (.cons rx .nil)) q) fun r s1 ⟨z, H1, I1, rz, b, ez, q1⟩ => ?_)
  subst ez
  cases rz
  exact wpAny_truthy_bool ⟨.bl _, H1, I1, rfl, q1⟩
/-- o[i], by o's own method -/
def tOwnGet (C : Addr) (sp : Sp) (ta tb : TE) : TE := fun σ H Q => ta σ H fun x H1 => tb σ H1 fun y H2 => ∃ a dx fs, x = .ref a ∧ H2 a = some (.ins C dx fs) ∧ sp [.ref a, y] H2 Q E0
/-- the def at f is a plain one -/
def FnK (K : PySem.W.Frag) (C : Addr) (m : Str) : Prop := ∀ f, PySem.W.findIn K (.ref C) m = some (some (.ref f)) → PySem.W.fnIn K f = true
theorem pe_own_get {i : Expr} {tb : TE} (G : GM X.prog X.w X.K X.mg X.base k C "__getitem__" ps sp) (fk : FnK X.K C "__getitem__") (hr : Room (k + 1) X.A) (he : PE X o ta) (hi : PE X i tb)
    (hs : ∀ a b, subscripted i true a b = runValue (.builtin "lifetime.subscript" ⟨[a, b], []⟩) := by intro _ _; rfl) : PE X (.Subscript o i pos) (tOwnGet C sp ta tb) := by
  obtain ⟨f, fd, F, c, hm, hb⟩ := G
  refine ⟨fun pins s σ H Q I h => ?_⟩
  refine Subscript_ (binT he hi I h fun v u s2 x y H2 I2 rx ry q => ?_)
  obtain ⟨a, dx, fs, rfl, ea, q⟩ := q
  cases rx
  obtain ⟨mA, J, _⟩ := ins_get I2.hok ea
  obtain ⟨od, J, _⟩ := J.look
  obtain ⟨m, hF⟩ := I2.fr
  refine PySem.W.sub_K hF I2.ok.mod.kin J hm.at_ (fk f hm.at_) hm.fn ?_ (hs _ _)
  have r2 : Vals [V.ref a, y] [Value.ref a, u] := .cons rfl (.cons ry .nil)
  have hl : ([Value.ref a, u] ++ []).length = ps.length := by
    have e := F.len _ _ _ _ q
    exact e
  refine wpAny_call (codeAny_mono (F.run X.A.in1 X.stack s2 H2 ⟨[.ref a, u], []⟩ [.ref a, u] [.ref a, y] Q E0 hr.in1 I2.env0.in1 (hb s2 [.ref a, u] I2.kIn hl) r2 q) fun r s' hq => ?_)
  cases r with
  | error e => exact False.elim hq
  | ok fl =>
    cases fl with
    | ret z => exact I2.after hq
    | next => exact False.elim hq
    | brk => exact False.elim hq
    | cont => exact False.elim hq
end
end K94
set_option maxHeartbeats 2000000
/-! the text by places, the defs' scopes, the facts of the top (printed by gentxt.py) -/
namespace K94
open PySem PySem.Spec PyProof.Rows L2
def top (i : Nat) : Stmt := PySem.Challenge.pw_heldlives_k94_whole_uses_and_works_at_on.main.body.getD i (.Pass ⟨0, 0, 0, 0⟩)
/-- a def of the text as it stands behind the top -/
abbrev FnP (K : PySem.W.Frag) (x q : Str) (st : Stmt) (f : Addr) (fd : FuncData) : Prop := FunD K x q (defArgs st) (defBody st) (defScope st) [] [] f fd
abbrev s_is_one_of : Stmt := top 22
abbrev N_is_one_of : List Str := ["thing", "words"]
abbrev P_is_one_of : List Str := ["thing", "words"]
theorem sc_is_one_of : FnScope N_is_one_of P_is_one_of (defScope s_is_one_of) := ⟨rfl, rfl, rfl, by decide +kernel, rfl, by decide +kernel, by decide +kernel⟩
abbrev s_are_bars : Stmt := top 23
abbrev N_are_bars : List Str := ["thing", "word"]
abbrev P_are_bars : List Str := ["thing"]
theorem sc_are_bars : FnScope N_are_bars P_are_bars (defScope s_are_bars) := ⟨rfl, rfl, rfl, by decide +kernel, rfl, by decide +kernel, by decide +kernel⟩
abbrev s_need_field : Stmt := top 24
abbrev N_need_field : List Str := ["field", "thing", "words"]
abbrev P_need_field : List Str := ["field", "thing", "words"]
theorem sc_need_field : FnScope N_need_field P_need_field (defScope s_need_field) := ⟨rfl, rfl, rfl, by decide +kernel, rfl, by decide +kernel, by decide +kernel⟩
abbrev s_Book___init__ : Stmt := inClass (top 25) 0
abbrev N_Book___init__ : List Str := ["self", "held", "each", "lifted", "ends", "works", "bars"]
abbrev P_Book___init__ : List Str := ["self", "held", "each", "lifted", "ends", "works", "bars"]
theorem sc_Book___init__ : FnScope N_Book___init__ P_Book___init__ (defScope s_Book___init__) := ⟨rfl, rfl, rfl, by decide +kernel, rfl, by decide +kernel, by decide +kernel⟩
abbrev s_Book_held : Stmt := inClass (top 25) 1
abbrev N_Book_held : List Str := ["self"]
abbrev P_Book_held : List Str := ["self"]
theorem sc_Book_held : FnScope N_Book_held P_Book_held (defScope s_Book_held) := ⟨rfl, rfl, rfl, by decide +kernel, rfl, by decide +kernel, by decide +kernel⟩
abbrev s_Book_each : Stmt := inClass (top 25) 2
abbrev N_Book_each : List Str := ["self"]
abbrev P_Book_each : List Str := ["self"]
theorem sc_Book_each : FnScope N_Book_each P_Book_each (defScope s_Book_each) := ⟨rfl, rfl, rfl, by decide +kernel, rfl, by decide +kernel, by decide +kernel⟩
abbrev s_Book_lifted : Stmt := inClass (top 25) 3
abbrev N_Book_lifted : List Str := ["self"]
abbrev P_Book_lifted : List Str := ["self"]
theorem sc_Book_lifted : FnScope N_Book_lifted P_Book_lifted (defScope s_Book_lifted) := ⟨rfl, rfl, rfl, by decide +kernel, rfl, by decide +kernel, by decide +kernel⟩
abbrev s_Book_ends : Stmt := inClass (top 25) 4
abbrev N_Book_ends : List Str := ["self"]
abbrev P_Book_ends : List Str := ["self"]
theorem sc_Book_ends : FnScope N_Book_ends P_Book_ends (defScope s_Book_ends) := ⟨rfl, rfl, rfl, by decide +kernel, rfl, by decide +kernel, by decide +kernel⟩
abbrev s_Book_works : Stmt := inClass (top 25) 5
abbrev N_Book_works : List Str := ["self"]
abbrev P_Book_works : List Str := ["self"]
theorem sc_Book_works : FnScope N_Book_works P_Book_works (defScope s_Book_works) := ⟨rfl, rfl, rfl, by decide +kernel, rfl, by decide +kernel, by decide +kernel⟩
abbrev s_Book_bars : Stmt := inClass (top 25) 6
abbrev N_Book_bars : List Str := ["self"]
abbrev P_Book_bars : List Str := ["self"]
theorem sc_Book_bars : FnScope N_Book_bars P_Book_bars (defScope s_Book_bars) := ⟨rfl, rfl, rfl, by decide +kernel, rfl, by decide +kernel, by decide +kernel⟩
abbrev s_need_book : Stmt := top 26
abbrev N_need_book : List Str := ["book"]
abbrev P_need_book : List Str := ["book"]
theorem sc_need_book : FnScope N_need_book P_need_book (defScope s_need_book) := ⟨rfl, rfl, rfl, by decide +kernel, rfl, by decide +kernel, by decide +kernel⟩
abbrev s_is_number : Stmt := top 36
abbrev N_is_number : List Str := ["thing"]
abbrev P_is_number : List Str := ["thing"]
theorem sc_is_number : FnScope N_is_number P_is_number (defScope s_is_number) := ⟨rfl, rfl, rfl, by decide +kernel, rfl, by decide +kernel, by decide +kernel⟩
abbrev s_is_part_name : Stmt := top 37
abbrev N_is_part_name : List Str := ["thing", "letter"]
abbrev P_is_part_name : List Str := ["thing"]
theorem sc_is_part_name : FnScope N_is_part_name P_is_part_name (defScope s_is_part_name) := ⟨rfl, rfl, rfl, by decide +kernel, rfl, by decide +kernel, by decide +kernel⟩
abbrev s_is_want : Stmt := top 38
abbrev N_is_want : List Str := ["thing"]
abbrev P_is_want : List Str := ["thing"]
theorem sc_is_want : FnScope N_is_want P_is_want (defScope s_is_want) := ⟨rfl, rfl, rfl, by decide +kernel, rfl, by decide +kernel, by decide +kernel⟩
abbrev s_are_wants : Stmt := top 39
abbrev N_are_wants : List Str := ["thing", "want", "way", "name"]
abbrev P_are_wants : List Str := ["thing"]
theorem sc_are_wants : FnScope N_are_wants P_are_wants (defScope s_are_wants) := ⟨rfl, rfl, rfl, by decide +kernel, rfl, by decide +kernel, by decide +kernel⟩
abbrev s_Part___init__ : Stmt := inClass (top 40) 0
abbrev N_Part___init__ : List Str := ["self", "life", "wants"]
abbrev P_Part___init__ : List Str := ["self", "life", "wants"]
theorem sc_Part___init__ : FnScope N_Part___init__ P_Part___init__ (defScope s_Part___init__) := ⟨rfl, rfl, rfl, by decide +kernel, rfl, by decide +kernel, by decide +kernel⟩
abbrev s_Part_life : Stmt := inClass (top 40) 1
abbrev N_Part_life : List Str := ["self"]
abbrev P_Part_life : List Str := ["self"]
theorem sc_Part_life : FnScope N_Part_life P_Part_life (defScope s_Part_life) := ⟨rfl, rfl, rfl, by decide +kernel, rfl, by decide +kernel, by decide +kernel⟩
abbrev s_Part_wants : Stmt := inClass (top 40) 2
abbrev N_Part_wants : List Str := ["self"]
abbrev P_Part_wants : List Str := ["self"]
theorem sc_Part_wants : FnScope N_Part_wants P_Part_wants (defScope s_Part_wants) := ⟨rfl, rfl, rfl, by decide +kernel, rfl, by decide +kernel, by decide +kernel⟩
abbrev s_are_named : Stmt := top 41
abbrev N_are_named : List Str := ["thing", "name"]
abbrev P_are_named : List Str := ["thing"]
theorem sc_are_named : FnScope N_are_named P_are_named (defScope s_are_named) := ⟨rfl, rfl, rfl, by decide +kernel, rfl, by decide +kernel, by decide +kernel⟩
abbrev s_is_fitting : Stmt := top 42
abbrev N_is_fitting : List Str := ["depth", "found", "name", "part", "way", "wanted"]
abbrev P_is_fitting : List Str := ["depth", "found", "name"]
theorem sc_is_fitting : FnScope N_is_fitting P_is_fitting (defScope s_is_fitting) := ⟨rfl, rfl, rfl, by decide +kernel, rfl, by decide +kernel, by decide +kernel⟩
abbrev s_wanted_by : Stmt := top 43
abbrev N_wanted_by : List Str := ["found", "name", "known", "left", "wanted", "way", "other"]
abbrev P_wanted_by : List Str := ["found", "name"]
theorem sc_wanted_by : FnScope N_wanted_by P_wanted_by (defScope s_wanted_by) := ⟨rfl, rfl, rfl, by decide +kernel, rfl, by decide +kernel, by decide +kernel⟩
abbrev s_Parts___init__ : Stmt := inClass (top 44) 0
abbrev N_Parts___init__ : List Str := ["self", "depth", "parts", "name"]
abbrev P_Parts___init__ : List Str := ["self", "depth", "parts"]
theorem sc_Parts___init__ : FnScope N_Parts___init__ P_Parts___init__ (defScope s_Parts___init__) := ⟨rfl, rfl, rfl, by decide +kernel, rfl, by decide +kernel, by decide +kernel⟩
abbrev s_Parts_depth : Stmt := inClass (top 44) 1
abbrev N_Parts_depth : List Str := ["self"]
abbrev P_Parts_depth : List Str := ["self"]
theorem sc_Parts_depth : FnScope N_Parts_depth P_Parts_depth (defScope s_Parts_depth) := ⟨rfl, rfl, rfl, by decide +kernel, rfl, by decide +kernel, by decide +kernel⟩
abbrev s_Parts_names : Stmt := inClass (top 44) 2
abbrev N_Parts_names : List Str := ["self"]
abbrev P_Parts_names : List Str := ["self"]
theorem sc_Parts_names : FnScope N_Parts_names P_Parts_names (defScope s_Parts_names) := ⟨rfl, rfl, rfl, by decide +kernel, rfl, by decide +kernel, by decide +kernel⟩
abbrev s_Parts___contains__ : Stmt := inClass (top 44) 4
abbrev N_Parts___contains__ : List Str := ["self", "name"]
abbrev P_Parts___contains__ : List Str := ["self", "name"]
theorem sc_Parts___contains__ : FnScope N_Parts___contains__ P_Parts___contains__ (defScope s_Parts___contains__) := ⟨rfl, rfl, rfl, by decide +kernel, rfl, by decide +kernel, by decide +kernel⟩
abbrev s_Parts___getitem__ : Stmt := inClass (top 44) 5
abbrev N_Parts___getitem__ : List Str := ["self", "name"]
abbrev P_Parts___getitem__ : List Str := ["self", "name"]
theorem sc_Parts___getitem__ : FnScope N_Parts___getitem__ P_Parts___getitem__ (defScope s_Parts___getitem__) := ⟨rfl, rfl, rfl, by decide +kernel, rfl, by decide +kernel, by decide +kernel⟩
abbrev s_need_parts : Stmt := top 45
abbrev N_need_parts : List Str := ["parts"]
abbrev P_need_parts : List Str := ["parts"]
theorem sc_need_parts : FnScope N_need_parts P_need_parts (defScope s_need_parts) := ⟨rfl, rfl, rfl, by decide +kernel, rfl, by decide +kernel, by decide +kernel⟩
abbrev s_need_part : Stmt := top 46
abbrev N_need_part : List Str := ["parts", "name"]
abbrev P_need_part : List Str := ["parts", "name"]
theorem sc_need_part : FnScope N_need_part P_need_part (defScope s_need_part) := ⟨rfl, rfl, rfl, by decide +kernel, rfl, by decide +kernel, by decide +kernel⟩
abbrev s_bar_of : Stmt := top 47
abbrev N_bar_of : List Str := ["life", "way", "wanted_life"]
abbrev P_bar_of : List Str := ["life", "way", "wanted_life"]
theorem sc_bar_of : FnScope N_bar_of P_bar_of (defScope s_bar_of) := ⟨rfl, rfl, rfl, by decide +kernel, rfl, by decide +kernel, by decide +kernel⟩
abbrev s_broken_bars : Stmt := top 48
abbrev N_broken_bars : List Str := ["parts", "found", "name", "way", "wanted", "word"]
abbrev P_broken_bars : List Str := ["parts"]
theorem sc_broken_bars : FnScope N_broken_bars P_broken_bars (defScope s_broken_bars) := ⟨rfl, rfl, rfl, by decide +kernel, rfl, by decide +kernel, by decide +kernel⟩
abbrev s_Scope___init__ : Stmt := inClass (top 51) 0
abbrev N_Scope___init__ : List Str := ["self", "level", "under"]
abbrev P_Scope___init__ : List Str := ["self", "level", "under"]
theorem sc_Scope___init__ : FnScope N_Scope___init__ P_Scope___init__ (defScope s_Scope___init__) := ⟨rfl, rfl, rfl, by decide +kernel, rfl, by decide +kernel, by decide +kernel⟩
abbrev s_Thing___init__ : Stmt := inClass (top 52) 0
abbrev N_Thing___init__ : List Str := ["self", "name", "home"]
abbrev P_Thing___init__ : List Str := ["self", "name", "home"]
theorem sc_Thing___init__ : FnScope N_Thing___init__ P_Thing___init__ (defScope s_Thing___init__) := ⟨rfl, rfl, rfl, by decide +kernel, rfl, by decide +kernel, by decide +kernel⟩
abbrev s_is_deed : Stmt := top 53
abbrev N_is_deed : List Str := ["thing"]
abbrev P_is_deed : List Str := ["thing"]
theorem sc_is_deed : FnScope N_is_deed P_is_deed (defScope s_is_deed) := ⟨rfl, rfl, rfl, by decide +kernel, rfl, by decide +kernel, by decide +kernel⟩
abbrev s_Container___init__ : Stmt := inClass (top 54) 0
abbrev N_Container___init__ : List Str := ["self", "book", "parts", "word"]
abbrev P_Container___init__ : List Str := ["self", "book", "parts"]
theorem sc_Container___init__ : FnScope N_Container___init__ P_Container___init__ (defScope s_Container___init__) := ⟨rfl, rfl, rfl, by decide +kernel, rfl, by decide +kernel, by decide +kernel⟩
abbrev s_Container_book : Stmt := inClass (top 54) 1
abbrev N_Container_book : List Str := ["self"]
abbrev P_Container_book : List Str := ["self"]
theorem sc_Container_book : FnScope N_Container_book P_Container_book (defScope s_Container_book) := ⟨rfl, rfl, rfl, by decide +kernel, rfl, by decide +kernel, by decide +kernel⟩
abbrev s_Container_parts : Stmt := inClass (top 54) 2
abbrev N_Container_parts : List Str := ["self"]
abbrev P_Container_parts : List Str := ["self"]
theorem sc_Container_parts : FnScope N_Container_parts P_Container_parts (defScope s_Container_parts) := ⟨rfl, rfl, rfl, by decide +kernel, rfl, by decide +kernel, by decide +kernel⟩
abbrev s_Container_scopes : Stmt := inClass (top 54) 3
abbrev N_Container_scopes : List Str := ["self", "one"]
abbrev P_Container_scopes : List Str := ["self"]
theorem sc_Container_scopes : FnScope N_Container_scopes P_Container_scopes (defScope s_Container_scopes) := ⟨rfl, rfl, rfl, by decide +kernel, rfl, by decide +kernel, by decide +kernel⟩
abbrev s_Container_faults : Stmt := inClass (top 54) 4
abbrev N_Container_faults : List Str := ["self"]
abbrev P_Container_faults : List Str := ["self"]
theorem sc_Container_faults : FnScope N_Container_faults P_Container_faults (defScope s_Container_faults) := ⟨rfl, rfl, rfl, by decide +kernel, rfl, by decide +kernel, by decide +kernel⟩
abbrev s_Container_things : Stmt := inClass (top 54) 5
abbrev N_Container_things : List Str := ["self", "one"]
abbrev P_Container_things : List Str := ["self"]
theorem sc_Container_things : FnScope N_Container_things P_Container_things (defScope s_Container_things) := ⟨rfl, rfl, rfl, by decide +kernel, rfl, by decide +kernel, by decide +kernel⟩
abbrev s_Container_waiting : Stmt := inClass (top 54) 6
abbrev N_Container_waiting : List Str := ["self", "work"]
abbrev P_Container_waiting : List Str := ["self"]
theorem sc_Container_waiting : FnScope N_Container_waiting P_Container_waiting (defScope s_Container_waiting) := ⟨rfl, rfl, rfl, by decide +kernel, rfl, by decide +kernel, by decide +kernel⟩
abbrev s_Container_is_open : Stmt := inClass (top 54) 8
abbrev N_Container_is_open : List Str := ["self", "scope"]
abbrev P_Container_is_open : List Str := ["self", "scope"]
theorem sc_Container_is_open : FnScope N_Container_is_open P_Container_is_open (defScope s_Container_is_open) := ⟨rfl, rfl, rfl, by decide +kernel, rfl, by decide +kernel, by decide +kernel⟩
abbrev s_Container_need_request : Stmt := inClass (top 54) 9
abbrev N_Container_need_request : List Str := ["self", "request"]
abbrev P_Container_need_request : List Str := ["self", "request"]
theorem sc_Container_need_request : FnScope N_Container_need_request P_Container_need_request (defScope s_Container_need_request) := ⟨rfl, rfl, rfl, by decide +kernel, rfl, by decide +kernel, by decide +kernel⟩
abbrev s_Container_ancestor : Stmt := inClass (top 54) 10
abbrev N_Container_ancestor : List Str := ["self", "scope", "level"]
abbrev P_Container_ancestor : List Str := ["self", "scope", "level"]
theorem sc_Container_ancestor : FnScope N_Container_ancestor P_Container_ancestor (defScope s_Container_ancestor) := ⟨rfl, rfl, rfl, by decide +kernel, rfl, by decide +kernel, by decide +kernel⟩
abbrev s_Container_place_of : Stmt := inClass (top 54) 11
abbrev N_Container_place_of : List Str := ["self", "name", "scope", "life"]
abbrev P_Container_place_of : List Str := ["self", "name", "scope"]
theorem sc_Container_place_of : FnScope N_Container_place_of P_Container_place_of (defScope s_Container_place_of) := ⟨rfl, rfl, rfl, by decide +kernel, rfl, by decide +kernel, by decide +kernel⟩
abbrev s_Container_get : Stmt := inClass (top 54) 12
abbrev N_Container_get : List Str := ["self", "name", "scope", "request", "path", "is_served_open", "place"]
abbrev P_Container_get : List Str := ["self", "name", "scope", "request", "path"]
theorem sc_Container_get : FnScope N_Container_get P_Container_get (defScope s_Container_get) := ⟨rfl, rfl, rfl, by decide +kernel, rfl, by decide +kernel, by decide +kernel⟩
abbrev s_Container_make : Stmt := inClass (top 54) 13
abbrev N_Container_make : List Str := ["self", "name", "home", "request", "path", "number", "thing", "source", "way", "wanted"]
abbrev P_Container_make : List Str := ["self", "name", "home", "request", "path"]
theorem sc_Container_make : FnScope N_Container_make P_Container_make (defScope s_Container_make) := ⟨rfl, rfl, rfl, by decide +kernel, rfl, by decide +kernel, by decide +kernel⟩
abbrev s_Container_wanted : Stmt := inClass (top 54) 14
abbrev N_Container_wanted : List Str := ["self", "number", "name", "source", "request", "path", "found"]
abbrev P_Container_wanted : List Str := ["self", "number", "name", "source", "request", "path"]
theorem sc_Container_wanted : FnScope N_Container_wanted P_Container_wanted (defScope s_Container_wanted) := ⟨rfl, rfl, rfl, by decide +kernel, rfl, by decide +kernel, by decide +kernel⟩
abbrev s_Container_use_thing : Stmt := inClass (top 54) 15
abbrev N_Container_use_thing : List Str := ["self", "number", "request", "path", "thing", "part", "source", "held", "way", "wanted", "found"]
abbrev P_Container_use_thing : List Str := ["self", "number", "request", "path"]
theorem sc_Container_use_thing : FnScope N_Container_use_thing P_Container_use_thing (defScope s_Container_use_thing) := ⟨rfl, rfl, rfl, by decide +kernel, rfl, by decide +kernel, by decide +kernel⟩
abbrev s_Container_let_loose : Stmt := inClass (top 54) 16
abbrev N_Container_let_loose : List Str := ["self", "number"]
abbrev P_Container_let_loose : List Str := ["self", "number"]
theorem sc_Container_let_loose : FnScope N_Container_let_loose P_Container_let_loose (defScope s_Container_let_loose) := ⟨rfl, rfl, rfl, by decide +kernel, rfl, by decide +kernel, by decide +kernel⟩
abbrev s_Container_end_thing : Stmt := inClass (top 54) 17
abbrev N_Container_end_thing : List Str := ["self", "number", "thing", "held"]
abbrev P_Container_end_thing : List Str := ["self", "number"]
theorem sc_Container_end_thing : FnScope N_Container_end_thing P_Container_end_thing (defScope s_Container_end_thing) := ⟨rfl, rfl, rfl, by decide +kernel, rfl, by decide +kernel, by decide +kernel⟩
abbrev s_Container_shut : Stmt := inClass (top 54) 18
abbrev N_Container_shut : List Str := ["self", "scope", "number", "thing"]
abbrev P_Container_shut : List Str := ["self", "scope"]
theorem sc_Container_shut : FnScope N_Container_shut P_Container_shut (defScope s_Container_shut) := ⟨rfl, rfl, rfl, by decide +kernel, rfl, by decide +kernel, by decide +kernel⟩
abbrev s_Container_is_quiet : Stmt := inClass (top 54) 19
abbrev N_Container_is_quiet : List Str := ["self"]
abbrev P_Container_is_quiet : List Str := ["self"]
theorem sc_Container_is_quiet : FnScope N_Container_is_quiet P_Container_is_quiet (defScope s_Container_is_quiet) := ⟨rfl, rfl, rfl, by decide +kernel, rfl, by decide +kernel, by decide +kernel⟩
abbrev s_Container_attached : Stmt := inClass (top 54) 20
abbrev N_Container_attached : List Str := ["self", "found", "left", "number", "thing", "held"]
abbrev P_Container_attached : List Str := ["self"]
theorem sc_Container_attached : FnScope N_Container_attached P_Container_attached (defScope s_Container_attached) := ⟨rfl, rfl, rfl, by decide +kernel, rfl, by decide +kernel, by decide +kernel⟩
abbrev s_Container_finish : Stmt := inClass (top 54) 21
abbrev N_Container_finish : List Str := ["self", "number", "attached", "thing", "is_use"]
abbrev P_Container_finish : List Str := ["self"]
theorem sc_Container_finish : FnScope N_Container_finish P_Container_finish (defScope s_Container_finish) := ⟨rfl, rfl, rfl, by decide +kernel, rfl, by decide +kernel, by decide +kernel⟩
abbrev s_Container_begin : Stmt := inClass (top 54) 22
abbrev N_Container_begin : List Str := ["self", "scope", "found"]
abbrev P_Container_begin : List Str := ["self", "scope"]
theorem sc_Container_begin : FnScope N_Container_begin P_Container_begin (defScope s_Container_begin) := ⟨rfl, rfl, rfl, by decide +kernel, rfl, by decide +kernel, by decide +kernel⟩
abbrev s_Container_opened : Stmt := inClass (top 54) 23
abbrev N_Container_opened : List Str := ["self", "scope", "found"]
abbrev P_Container_opened : List Str := ["self", "scope"]
theorem sc_Container_opened : FnScope N_Container_opened P_Container_opened (defScope s_Container_opened) := ⟨rfl, rfl, rfl, by decide +kernel, rfl, by decide +kernel, by decide +kernel⟩
abbrev s_Container_close : Stmt := inClass (top 54) 24
abbrev N_Container_close : List Str := ["self", "scope", "work"]
abbrev P_Container_close : List Str := ["self", "scope"]
theorem sc_Container_close : FnScope N_Container_close P_Container_close (defScope s_Container_close) := ⟨rfl, rfl, rfl, by decide +kernel, rfl, by decide +kernel, by decide +kernel⟩
abbrev s_Container_ask : Stmt := inClass (top 54) 25
abbrev N_Container_ask : List Str := ["self", "request", "name", "found"]
abbrev P_Container_ask : List Str := ["self", "request", "name"]
theorem sc_Container_ask : FnScope N_Container_ask P_Container_ask (defScope s_Container_ask) := ⟨rfl, rfl, rfl, by decide +kernel, rfl, by decide +kernel, by decide +kernel⟩
abbrev s_Container_use : Stmt := inClass (top 54) 26
abbrev N_Container_use : List Str := ["self", "request", "name", "found"]
abbrev P_Container_use : List Str := ["self", "request", "name"]
theorem sc_Container_use : FnScope N_Container_use P_Container_use (defScope s_Container_use) := ⟨rfl, rfl, rfl, by decide +kernel, rfl, by decide +kernel, by decide +kernel⟩
abbrev s_Container_later : Stmt := inClass (top 54) 27
abbrev N_Container_later : List Str := ["self", "request", "name", "found", "work"]
abbrev P_Container_later : List Str := ["self", "request", "name"]
theorem sc_Container_later : FnScope N_Container_later P_Container_later (defScope s_Container_later) := ⟨rfl, rfl, rfl, by decide +kernel, rfl, by decide +kernel, by decide +kernel⟩
abbrev s_Container_run : Stmt := inClass (top 54) 28
abbrev N_Container_run : List Str := ["self", "work", "request", "name", "found", "scopes", "level", "scope", "other"]
abbrev P_Container_run : List Str := ["self", "work"]
theorem sc_Container_run : FnScope N_Container_run P_Container_run (defScope s_Container_run) := ⟨rfl, rfl, rfl, by decide +kernel, rfl, by decide +kernel, by decide +kernel⟩
abbrev s_Container_do : Stmt := inClass (top 54) 29
abbrev N_Container_do : List Str := ["self", "deed"]
abbrev P_Container_do : List Str := ["self", "deed"]
theorem sc_Container_do : FnScope N_Container_do P_Container_do (defScope s_Container_do) := ⟨rfl, rfl, rfl, by decide +kernel, rfl, by decide +kernel, by decide +kernel⟩
abbrev s_Container_answer : Stmt := inClass (top 54) 30
abbrev N_Container_answer : List Str := ["self", "deed"]
abbrev P_Container_answer : List Str := ["self", "deed"]
theorem sc_Container_answer : FnScope N_Container_answer P_Container_answer (defScope s_Container_answer) := ⟨rfl, rfl, rfl, by decide +kernel, rfl, by decide +kernel, by decide +kernel⟩
abbrev s_played : Stmt := top 56
abbrev N_played : List Str := ["book", "parts", "history", "found", "answers", "at", "deed"]
abbrev P_played : List Str := ["book", "parts", "history"]
theorem sc_played : FnScope N_played P_played (defScope s_played) := ⟨rfl, rfl, rfl, by decide +kernel, rfl, by decide +kernel, by decide +kernel⟩
abbrev s_replayed : Stmt := top 57
abbrev N_replayed : List Str := ["book", "parts", "history"]
abbrev P_replayed : List Str := ["book", "parts", "history"]
theorem sc_replayed : FnScope N_replayed P_replayed (defScope s_replayed) := ⟨rfl, rfl, rfl, by decide +kernel, rfl, by decide +kernel, by decide +kernel⟩
abbrev s_answers_of : Stmt := top 58
abbrev N_answers_of : List Str := ["book", "parts", "history"]
abbrev P_answers_of : List Str := ["book", "parts", "history"]
theorem sc_answers_of : FnScope N_answers_of P_answers_of (defScope s_answers_of) := ⟨rfl, rfl, rfl, by decide +kernel, rfl, by decide +kernel, by decide +kernel⟩
abbrev s__law_begun : Stmt := top 60
abbrev N__law_begun : List Str := ["_law_script", "_law_wide", "_law_cell"]
abbrev P__law_begun : List Str := ["_law_script"]
theorem sc__law_begun : FnScope N__law_begun P__law_begun (defScope s__law_begun) := ⟨rfl, rfl, rfl, by decide +kernel, rfl, by decide +kernel, by decide +kernel⟩
abbrev s__law_mixed : Stmt := top 61
abbrev N__law_mixed : List Str := ["_law_draw", "_law_turn", "_law_found", "_law_prime", "_law_blend", "_law_cell"]
abbrev P__law_mixed : List Str := ["_law_draw"]
theorem sc__law_mixed : FnScope N__law_mixed P__law_mixed (defScope s__law_mixed) := ⟨rfl, rfl, rfl, by decide +kernel, rfl, by decide +kernel, by decide +kernel⟩
abbrev s__law_take : Stmt := top 62
abbrev N__law_take : List Str := ["_law_draw", "_law_size", "_law_found"]
abbrev P__law_take : List Str := ["_law_draw", "_law_size"]
theorem sc__law_take : FnScope N__law_take P__law_take (defScope s__law_take) := ⟨rfl, rfl, rfl, by decide +kernel, rfl, by decide +kernel, by decide +kernel⟩
abbrev s__law_pick : Stmt := top 63
abbrev N__law_pick : List Str := ["_law_draw", "_law_some"]
abbrev P__law_pick : List Str := ["_law_draw", "_law_some"]
theorem sc__law_pick : FnScope N__law_pick P__law_pick (defScope s__law_pick) := ⟨rfl, rfl, rfl, by decide +kernel, rfl, by decide +kernel, by decide +kernel⟩
abbrev s__law_shuffled : Stmt := top 64
abbrev N__law_shuffled : List Str := ["_law_draw", "_law_some", "_law_left", "_law_found"]
abbrev P__law_shuffled : List Str := ["_law_draw", "_law_some"]
theorem sc__law_shuffled : FnScope N__law_shuffled P__law_shuffled (defScope s__law_shuffled) := ⟨rfl, rfl, rfl, by decide +kernel, rfl, by decide +kernel, by decide +kernel⟩
abbrev s__law_drawn_fields : Stmt := top 65
abbrev N__law_drawn_fields : List Str := ["_law_draw", "_law_found"]
abbrev P__law_drawn_fields : List Str := ["_law_draw"]
theorem sc__law_drawn_fields : FnScope N__law_drawn_fields P__law_drawn_fields (defScope s__law_drawn_fields) := ⟨rfl, rfl, rfl, by decide +kernel, rfl, by decide +kernel, by decide +kernel⟩
abbrev s__law_book : Stmt := top 66
abbrev N__law_book : List Str := ["_law_fields", "_law_sets"]
abbrev P__law_book : List Str := ["_law_fields"]
theorem sc__law_book : FnScope N__law_book P__law_book (defScope s__law_book) := ⟨rfl, rfl, rfl, by decide +kernel, rfl, by decide +kernel, by decide +kernel⟩
abbrev s__law_parts : Stmt := top 67
abbrev N__law_parts : List Str := ["_law_depth", "_law_model", "_law_found", "_law_name", "_law_life", "_law_wants"]
abbrev P__law_parts : List Str := ["_law_depth", "_law_model"]
theorem sc__law_parts : FnScope N__law_parts P__law_parts (defScope s__law_parts) := ⟨rfl, rfl, rfl, by decide +kernel, rfl, by decide +kernel, by decide +kernel⟩
abbrev s__law_begun_deeds : Stmt := top 68
abbrev N__law_begun_deeds : List Str := ["_law_draw", "_law_depth", "_law_found", "_law_ways", "_law_lap", "_law_way", "_law_number"]
abbrev P__law_begun_deeds : List Str := ["_law_draw", "_law_depth"]
theorem sc__law_begun_deeds : FnScope N__law_begun_deeds P__law_begun_deeds (defScope s__law_begun_deeds) := ⟨rfl, rfl, rfl, by decide +kernel, rfl, by decide +kernel, by decide +kernel⟩
abbrev s__law_small_parts : Stmt := top 69
abbrev N__law_small_parts : List Str := ["_law_draw", "_law_deep", "_law_many", "_law_found", "_law_names", "_law_k", "_law_others", "_law_wants", "_law_name"]
abbrev P__law_small_parts : List Str := ["_law_draw", "_law_deep", "_law_many"]
theorem sc__law_small_parts : FnScope N__law_small_parts P__law_small_parts (defScope s__law_small_parts) := ⟨rfl, rfl, rfl, by decide +kernel, rfl, by decide +kernel, by decide +kernel⟩
abbrev s__law_shop_deed : Stmt := top 70
abbrev N__law_shop_deed : List Str := ["_law_draw", "_law_shop", "_law_deep", "_law_is_rest", "_law_scopes", "_law_jobs", "_law_busy", "_law_free", "_law_way", "_law_requests", "_law_word", "_law_work", "_law_one"]
abbrev P__law_shop_deed : List Str := ["_law_draw", "_law_shop", "_law_deep", "_law_is_rest"]
theorem sc__law_shop_deed : FnScope N__law_shop_deed P__law_shop_deed (defScope s__law_shop_deed) := ⟨rfl, rfl, rfl, by decide +kernel, rfl, by decide +kernel, by decide +kernel⟩
abbrev s__law_level : Stmt := top 71
abbrev N__law_level : List Str := ["_law_scopes", "_law_scope", "_law_found", "_law_here", "_law_turn"]
abbrev P__law_level : List Str := ["_law_scopes", "_law_scope"]
theorem sc__law_level : FnScope N__law_level P__law_level (defScope s__law_level) := ⟨rfl, rfl, rfl, by decide +kernel, rfl, by decide +kernel, by decide +kernel⟩
abbrev s__law_deeds : Stmt := top 72
abbrev N__law_deeds : List Str := ["_law_draw", "_law_mine", "_law_made", "_law_deep", "_law_shop", "_law_found", "_law_deed", "_law_lap"]
abbrev P__law_deeds : List Str := ["_law_draw", "_law_mine", "_law_made", "_law_deep"]
theorem sc__law_deeds : FnScope N__law_deeds P__law_deeds (defScope s__law_deeds) := ⟨rfl, rfl, rfl, by decide +kernel, rfl, by decide +kernel, by decide +kernel⟩
abbrev s__law_as_works : Stmt := top 73
abbrev N__law_as_works : List Str := ["_law_deeds_here", "_law_found", "_law_count", "_law_deed"]
abbrev P__law_as_works : List Str := ["_law_deeds_here"]
theorem sc__law_as_works : FnScope N__law_as_works P__law_as_works (defScope s__law_as_works) := ⟨rfl, rfl, rfl, by decide +kernel, rfl, by decide +kernel, by decide +kernel⟩
abbrev s__law_returned : Stmt := top 74
abbrev N__law_returned : List Str := ["_law_deeds_here", "_law_told", "_law_k"]
abbrev P__law_returned : List Str := ["_law_deeds_here", "_law_told"]
theorem sc__law_returned : FnScope N__law_returned P__law_returned (defScope s__law_returned) := ⟨rfl, rfl, rfl, by decide +kernel, rfl, by decide +kernel, by decide +kernel⟩
abbrev s_law : Stmt := top 75
abbrev N_law : List Str := ["_law_script", "_law_draw", "_law_turn", "_law_fields", "_law_deep", "_law_mine", "_law_made", "_law_deeds_here", "_law_others", "_law_one", "_law_two", "_law_back", "_law_told"]
abbrev P_law : List Str := ["_law_script"]
theorem sc_law : FnScope N_law P_law (defScope s_law) := ⟨rfl, rfl, rfl, by decide +kernel, rfl, by decide +kernel, by decide +kernel⟩
abbrev CBook (K : PySem.W.Frag) : Addr := He.ga K "Book"
abbrev CContainer (K : PySem.W.Frag) : Addr := He.ga K "Container"
abbrev CPart (K : PySem.W.Frag) : Addr := He.ga K "Part"
abbrev CParts (K : PySem.W.Frag) : Addr := He.ga K "Parts"
abbrev CScope (K : PySem.W.Frag) : Addr := He.ga K "Scope"
abbrev CThing (K : PySem.W.Frag) : Addr := He.ga K "Thing"
abbrev RBARS (K : PySem.W.Frag) : Addr := He.ga K "BARS"
abbrev RHELD_books (K : PySem.W.Frag) : Addr := He.ga K "HELD_books"
abbrev REACH_books (K : PySem.W.Frag) : Addr := He.ga K "EACH_books"
abbrev RLIFTED (K : PySem.W.Frag) : Addr := He.ga K "LIFTED"
abbrev RENDS (K : PySem.W.Frag) : Addr := He.ga K "ENDS"
abbrev RWORKS (K : PySem.W.Frag) : Addr := He.ga K "WORKS"
abbrev RSIZES (K : PySem.W.Frag) : Addr := He.ga K "SIZES"
structure Txt (K : PySem.W.Frag) (mg : Str → Option Value) : Prop where
  c_Book : Cls K (CBook K)
  g_Book : mg "Book" = some (.ref (CBook K))
  n_Book_b_held : NoAttr K (CBook K) "b_held"
  n_Book_b_each : NoAttr K (CBook K) "b_each"
  n_Book_b_lifted : NoAttr K (CBook K) "b_lifted"
  n_Book_b_ends : NoAttr K (CBook K) "b_ends"
  n_Book_b_works : NoAttr K (CBook K) "b_works"
  n_Book_b_bars : NoAttr K (CBook K) "b_bars"
  c_Container : Cls K (CContainer K)
  g_Container : mg "Container" = some (.ref (CContainer K))
  n_Container_c_book : NoAttr K (CContainer K) "c_book"
  n_Container_c_parts : NoAttr K (CContainer K) "c_parts"
  n_Container_c_scopes : NoAttr K (CContainer K) "c_scopes"
  n_Container_c_things : NoAttr K (CContainer K) "c_things"
  n_Container_c_kept : NoAttr K (CContainer K) "c_kept"
  n_Container_c_works : NoAttr K (CContainer K) "c_works"
  n_Container_c_put_off : NoAttr K (CContainer K) "c_put_off"
  n_Container_c_loose : NoAttr K (CContainer K) "c_loose"
  n_Container_c_left : NoAttr K (CContainer K) "c_left"
  n_Container_c_faults : NoAttr K (CContainer K) "c_faults"
  n_Container_c_deeds : NoAttr K (CContainer K) "c_deeds"
  c_Part : Cls K (CPart K)
  g_Part : mg "Part" = some (.ref (CPart K))
  n_Part_p_life : NoAttr K (CPart K) "p_life"
  n_Part_p_wants : NoAttr K (CPart K) "p_wants"
  c_Parts : Cls K (CParts K)
  g_Parts : mg "Parts" = some (.ref (CParts K))
  n_Parts_g_depth : NoAttr K (CParts K) "g_depth"
  n_Parts_g_parts : NoAttr K (CParts K) "g_parts"
  c_Scope : Cls K (CScope K)
  g_Scope : mg "Scope" = some (.ref (CScope K))
  n_Scope_level : NoAttr K (CScope K) "level"
  n_Scope_under : NoAttr K (CScope K) "under"
  n_Scope_alive : NoAttr K (CScope K) "alive"
  c_Thing : Cls K (CThing K)
  g_Thing : mg "Thing" = some (.ref (CThing K))
  n_Thing_name : NoAttr K (CThing K) "name"
  n_Thing_home : NoAttr K (CThing K) "home"
  n_Thing_got : NoAttr K (CThing K) "got"
  n_Thing_ended : NoAttr K (CThing K) "ended"
  r_BARS : mg "BARS" = some (.ref (RBARS K))
  t_BARS : ∀ H : Hp, SqT K H (RBARS K) [V.str "each-shorter", V.str "each-use", V.str "held-shorter", V.str "held-use", V.str "use-each", V.str "use-held"]
  r_HELD_books : mg "HELD_books" = some (.ref (RHELD_books K))
  t_HELD_books : ∀ H : Hp, SqT K H (RHELD_books K) [V.str "home", V.str "now"]
  r_EACH_books : mg "EACH_books" = some (.ref (REACH_books K))
  t_EACH_books : ∀ H : Hp, SqT K H (REACH_books K) [V.str "now", V.str "program"]
  r_LIFTED : mg "LIFTED" = some (.ref (RLIFTED K))
  t_LIFTED : ∀ H : Hp, SqT K H (RLIFTED K) [V.str "nothing", V.str "kept"]
  r_ENDS : mg "ENDS" = some (.ref (RENDS K))
  t_ENDS : ∀ H : Hp, SqT K H (RENDS K) [V.str "holder", V.str "never", V.str "scope"]
  r_WORKS : mg "WORKS" = some (.ref (RWORKS K))
  t_WORKS : ∀ H : Hp, SqT K H (RWORKS K) [V.str "own", V.str "same", V.str "wait"]
  i_USE : ∃ t, mg "USE" = some (.int (-1) t)
  i_MOST_LIFE : ∃ t, mg "MOST_LIFE" = some (.int (3) t)
  i_MOST_DEPTH : ∃ t, mg "MOST_DEPTH" = some (.int (3) t)
  i_MOST_PARTS : ∃ t, mg "MOST_PARTS" = some (.int (12) t)
  i_LONGEST_NAME : ∃ t, mg "LONGEST_NAME" = some (.int (6) t)
  s_LETTERS : ∃ t, mg "LETTERS" = some (.str "abcdefghijklmnopqrstuvwxyz" t)
  s_HELD_parts : ∃ t, mg "HELD_parts" = some (.str "held" t)
  s_EACH_parts : ∃ t, mg "EACH_parts" = some (.str "each" t)
  r_SIZES : mg "SIZES" = some (.ref (RSIZES K))
  f_len : mg "len" = none
  f_isinstance : mg "isinstance" = none
  f_int : mg "int" = none
  f_str : mg "str" = none
  f_bool : mg "bool" = none
  f_list : mg "list" = none
  f_tuple : mg "tuple" = none
  f_dict : mg "dict" = none
  f_set : mg "set" = none
  f_all : mg "all" = none
  f_enumerate : mg "enumerate" = none
  f_range : mg "range" = none
  f_abs : mg "abs" = none
  f_min : mg "min" = none
  f_sorted : mg "sorted" = none
  fk : FnK K (CParts K) "__getitem__"
end K94
set_option maxHeartbeats 2000000
/-! a Hook of our own: facts, defs, tables, properties' getters -/
namespace K94
open PySem PySem.Spec PyProof.Rows L2
/-- the getter of the property m of the class x -/
def pgA (K : PySem.W.Frag) (x m : Str) : Addr := match PySem.W.recIn K (He.ma K (He.ga K x) m) "property" with
  | some (.ref g :: _) => g
  | _ => 0
def propB (K : PySem.W.Frag) (x m : Str) : Bool := He.eqO (PySem.W.findIn K (.ref (He.ga K x)) m) (some (some (.ref (He.ma K (He.ga K x) m)))) &&
  (He.eqO (PySem.W.specialIn K (.ref (He.ma K (He.ga K x) m)) "__get__") (some (some (.builtin "property.__get__"))) && (decide (PySem.W.takesIn K (.ref (He.ma K (He.ga K x) m)) = some true) &&
  (match PySem.W.recIn K (He.ma K (He.ga K x) m) "property" with
    | some (.ref _ :: _) => true
    | _ => false)))
theorem propB_ok {K : PySem.W.Frag} {x m : Str} (h : propB K x m = true) : PropOf K (He.ga K x) m (He.ma K (He.ga K x) m) (pgA K x m) := by
  obtain ⟨h1, h⟩ := He.ba h
  obtain ⟨h2, h⟩ := He.ba h
  obtain ⟨h3, h4⟩ := He.ba h
  refine ⟨He.eqO_ok h1, He.eqO_ok h2, of_decide_eq_true h3, ?_⟩
  unfold pgA
  split at h4
  · rename_i g r e
    exact ⟨r, by rw [e]⟩
  · cases h4
/-- the def at an address -/
def fnA (K : PySem.W.Frag) (a : Addr) : He.FnW := match K.lookup a with
  | some ⟨_, _, .func fd, _⟩ => some (fd.name, fd.qualname, fd.params, fd.body, fd.scope, fd.globals, fd.closure, fd.builtins)
  | _ => none
def noneB : Value → Bool
  | .none => true
  | _ => false
def okA (K : PySem.W.Frag) (a : Addr) (q : Str) : Bool := PySem.W.keepIn K (.ref a) && (match K.lookup a with
  | some ⟨_, _, .func fd, _⟩ => PySem.W.codeIn K fd.code q && noneB fd.defaults
  | _ => false)
theorem funA {K : PySem.W.Frag} {a : Addr} {d : He.DefD} (e : fnA K a = d.val) (c : okA K a d.qual = true) : ∃ fd, FunD K d.name d.qual d.params d.body d.scope [] [] a fd := by
  obtain ⟨kp, c2⟩ := He.ba c
  unfold fnA at e
  cases q : K.lookup a with
  | none =>
    rw [q] at c2
    cases c2
  | some o =>
    obtain ⟨oc, od, dt, osl⟩ := o
    rw [q] at c2 e
    cases dt with
    | func fd =>
      obtain ⟨n1, n2, n3, n4, n5, n6, n7, n8, n9, n10, n11, n12, n13, n14, n15⟩ := fd
      have e2 : (some (n1, n2, n3, n4, n5, n6, n7, n15) : He.FnW) = some (d.name, d.qual, d.params, .stmts d.body, d.scope, mainGlobals, [], builtinsNs) := e
      simp only [Option.some.injEq, Prod.mk.injEq] at e2
      obtain ⟨h1, h2, h3, h4, h5, h6, h7, h8⟩ := e2
      subst h1 h2 h3 h4 h5 h6 h7 h8
      have c3 : (PySem.W.codeIn K n13 d.qual && noneB n8) = true := c2
      obtain ⟨k1, k2⟩ := He.ba c3
      have e8 : n8 = .none := by
        cases n8 with
        | none => rfl
        | _ => cases k2
      exact ⟨_, ⟨oc, od, n8, n9, n10, n11, n12, n13, n14, osl, rfl, q, k1, .inl ⟨rfl, e8⟩, .inl rfl⟩, kp⟩
    | _ => cases c2
def ownB (K : PySem.W.Frag) (x : Str) : Bool := He.eqO (PySem.W.findIn K (.ref (He.ga K x)) "__class__") (some (some (.builtin "object.__class__"))) &&
  (He.eqO (PySem.W.specialIn K (.builtin "object.__class__") "__get__") (some (some (.builtin "getset_descriptor.__get__"))) &&
  (decide (PySem.W.takesIn K (.builtin "object.__class__") = some true) && decide (PySem.W.mroIn K (He.ga K x) (.type "object") = some true)))
theorem fnk_ok {K : PySem.W.Frag} {x m : Str} (c : (He.Fa.meth x m).ok K = true) (h : PySem.W.fnIn K (He.ma K (He.ga K x) m) = true) : FnK K (He.ga K x) m := fun f e => by
  have e1 := (He.meth_ok c).at_
  rw [e1] at e
  cases e
  exact h
/-! ### the Hook -/
/-- a property's getter: its class, its name, the def -/
structure PgD where
  cls : Str
  nm : Str
  d : He.DefD
abbrev AlP : Type := He.AlT × Bool × List He.FnW
def obsP (fa : List He.Fa) (fn : List He.DefD) (ts : List He.Tab) (ex : PySem.W.Frag → Bool) (pg : List PgD) (K : PySem.W.Frag) : AlP :=
  (He.obsT fa fn ts K, ex K && (pg.all fun p => propB K p.cls p.nm && okA K (pgA K p.cls p.nm) p.d.qual), pg.map fun p => fnA K (pgA K p.cls p.nm))
def valP (fn : List He.DefD) (ts : List He.Tab) (pg : List PgD) (w : World) : AlP := (He.valT fn ts w, true, pg.map fun p => p.d.val)
def SaysP (fa : List He.Fa) (fn : List He.DefD) (ts : List He.Tab) (ex : PySem.W.Frag → Bool) (pg : List PgD) (w : World) (K : PySem.W.Frag) : Prop := obsP fa fn ts ex pg K = valP fn ts pg w
/-- the class's namespace -/
def nsC (g : Addr → Option Obj) (c : Addr) : Addr := match g c with
  | some ⟨_, _, .cls cd, _⟩ => cd.ns
  | _ => 0
def fnRefs (g : Addr → Option Obj) (f : Addr) : List Addr := match g f with
  | some ⟨_, _, .func fd, _⟩ => He.refV fd.code ++ (He.refV fd.defaults ++ He.refV fd.kwdefaults)
  | _ => []
/-- where to look: the module's names, the classes cs, their namespaces, the objects xs, the defs, the properties and their getters, what the defs name -/
def asP3 (g : Addr → Option Obj) (A ps fs gs : List Addr) : List Addr := A ++ (ps ++ (fs ++ (gs ++ (fs ++ gs).flatMap (fnRefs g))))
def asP2 (g : Addr → Option Obj) (fn : List He.DefD) (pg : List PgD) (A : List Addr) (K1 : PySem.W.Frag) (ps : List Addr) : List Addr := asP3 g A ps (fn.map fun d => He.fAd K1 d.at_) (pg.map fun p => pgA (He.frG g (A ++ ps)) p.cls p.nm)
def asP1 (g : Addr → Option Obj) (fn : List He.DefD) (pg : List PgD) (A : List Addr) : List Addr := asP2 g fn pg A (He.frG g A) (pg.map fun p => He.ma (He.frG g A) (He.ga (He.frG g A) p.cls) p.nm)
def asP0 (g : Addr → Option Obj) (fn : List He.DefD) (pg : List PgD) (xs : List Str) (cs : List Addr) : List Addr := asP1 g fn pg (mainGlobals :: (cs ++ (cs.map (nsC g) ++ xs.map fun x => He.ga (He.frG g [mainGlobals]) x)))
def asP (g : Addr → Option Obj) (fn : List He.DefD) (pg : List PgD) (cs xs : List Str) : List Addr := asP0 g fn pg xs (cs.map fun x => He.ga (He.frG g [mainGlobals]) x)
def obsPG (cs xs : List Str) (fa : List He.Fa) (fn : List He.DefD) (ts : List He.Tab) (ex : PySem.W.Frag → Bool) (pg : List PgD) (g : Addr → Option Obj) : AlP := obsP fa fn ts ex pg (He.frG g (asP g fn pg cs xs))
def hookP (cs xs : List Str) (fa : List He.Fa) (fn : List He.DefD) (ts : List He.Tab) (ex : PySem.W.Frag → Bool) (pg : List PgD) : PySem.W.Hook where
  α := AlP
  obs := fun s => obsPG cs xs fa fn ts ex pg s.heap.get?
  val := fun w => valP fn ts pg w
  says := fun w h => ∃ K : PySem.W.Frag, K.In h ∧ SaysP fa fn ts ex pg w K
  of := fun _ _ e => ⟨_, He.frG_in, e⟩
  keeps := fun _ _ _ ⟨K, hK, c⟩ k => ⟨K, PySem.W.Frag.In.keeps hK k, c⟩
theorem obsPG_eq {cs xs : List Str} {fa : List He.Fa} {fn : List He.DefD} {ts : List He.Tab} {ex : PySem.W.Frag → Bool} {pg : List PgD} {g : Addr → Option Obj} {s : Shared} (h : ∀ a, g a = s.heap.get? a) : obsPG cs xs fa fn ts ex pg g = (hookP cs xs fa fn ts ex pg).obs s := by
  have e : g = s.heap.get? := funext h
  rw [e] <;> rfl
section
variable {fa : List He.Fa} {fn : List He.DefD} {ts : List He.Tab} {ex : PySem.W.Frag → Bool} {pg : List PgD} {w : World} {K : PySem.W.Frag}
theorem SaysP.t (c : SaysP fa fn ts ex pg w K) : He.SaysT fa fn ts w K := congrArg (fun z : AlP => z.1) c
theorem SaysP.ex_ (c : SaysP fa fn ts ex pg w K) : ex K = true := (He.ba (show (ex K && (pg.all fun p => propB K p.cls p.nm && okA K (pgA K p.cls p.nm) p.d.qual)) = true from congrArg (fun z : AlP => z.2.1) c)).1
theorem SaysP.pg_ (c : SaysP fa fn ts ex pg w K) (i : Nat) {p : PgD} (h : pg[i]? = some p := by rfl) : PropOf K (He.ga K p.cls) p.nm (He.ma K (He.ga K p.cls) p.nm) (pgA K p.cls p.nm) ∧ ∃ fd, FunD K p.d.name p.d.qual p.d.params p.d.body p.d.scope [] [] (pgA K p.cls p.nm) fd := by
  have c1 := (He.ba (show (ex K && (pg.all fun p => propB K p.cls p.nm && okA K (pgA K p.cls p.nm) p.d.qual)) = true from congrArg (fun z : AlP => z.2.1) c)).2
  obtain ⟨h1, h2⟩ := He.ba (List.all_eq_true.mp c1 p (List.mem_of_getElem? h))
  have e : pg.map (fun p => fnA K (pgA K p.cls p.nm)) = pg.map fun p => p.d.val := congrArg (fun z : AlP => z.2.2) c
  have e2 : (pg.map fun p => fnA K (pgA K p.cls p.nm))[i]? = (pg.map fun p => p.d.val)[i]? := by rw [e]
  rw [List.getElem?_map, List.getElem?_map, h] at e2
  exact ⟨propB_ok h1, funA (Option.some.inj e2) h2⟩
end
end K94
set_option maxHeartbeats 0
/-! the data of the head, the run (printed by genhd.py) -/
namespace K94
open PySem PySem.Spec PyProof.Rows L2
def dd (a : Str × Option Str) (n q : Str) (st : Stmt) : He.DefD := ⟨a, n, q, defArgs st, defBody st, defScope st, [], []⟩
def hfa0 : List He.Fa := [.cls "Book", .glo "Book", .mkr "Book", .noat "Book" "b_held", .noat "Book" "b_each", .noat "Book" "b_lifted", .noat "Book" "b_ends", .noat "Book" "b_works", .noat "Book" "b_bars", .cls "Container", .glo "Container", .mkr "Container", .noat "Container" "c_book", .noat "Container" "c_parts", .noat "Container" "c_scopes", .noat "Container" "c_things", .noat "Container" "c_kept", .noat "Container" "c_works", .noat "Container" "c_put_off", .noat "Container" "c_loose", .noat "Container" "c_left", .noat "Container" "c_faults", .noat "Container" "c_deeds", .cls "Part", .glo "Part", .mkr "Part", .noat "Part" "p_life", .noat "Part" "p_wants", .cls "Parts", .glo "Parts"]
def hfa1 : List He.Fa := [.mkr "Parts", .noat "Parts" "g_depth", .noat "Parts" "g_parts", .cls "Scope", .glo "Scope", .mkr "Scope", .noat "Scope" "level", .noat "Scope" "under", .noat "Scope" "alive", .cls "Thing", .glo "Thing", .mkr "Thing", .noat "Thing" "name", .noat "Thing" "home", .noat "Thing" "got", .noat "Thing" "ended", .glo "BARS", .glo "HELD_books", .glo "EACH_books", .glo "LIFTED", .glo "ENDS", .glo "WORKS", .int "USE" (-1), .int "MOST_LIFE" (3), .int "MOST_DEPTH" (3), .int "MOST_PARTS" (12), .int "LONGEST_NAME" (6), .str "LETTERS" "abcdefghijklmnopqrstuvwxyz", .str "HELD_parts" "held", .str "EACH_parts" "each"]
def hfa2 : List He.Fa := [.glo "SIZES", .glo "LifeError", .free "len", .free "isinstance", .free "int", .free "str", .free "bool", .free "list", .free "tuple", .free "dict", .free "set", .free "all", .free "enumerate", .free "range", .free "abs", .free "min", .free "sorted", .glo "is_one_of", .glo "are_bars", .glo "need_field", .glo "need_book", .glo "is_number", .glo "is_part_name", .glo "is_want", .glo "are_wants", .glo "are_named", .glo "is_fitting", .glo "wanted_by", .glo "need_parts", .glo "need_part"]
def hfa3 : List He.Fa := [.glo "bar_of", .glo "broken_bars", .glo "is_deed", .glo "played", .glo "replayed", .glo "answers_of", .glo "_law_begun", .glo "_law_mixed", .glo "_law_take", .glo "_law_pick", .glo "_law_shuffled", .glo "_law_drawn_fields", .glo "_law_book", .glo "_law_parts", .glo "_law_begun_deeds", .glo "_law_small_parts", .glo "_law_shop_deed", .glo "_law_level", .glo "_law_deeds", .glo "_law_as_works", .glo "_law_returned", .glo "law", .meth "Parts" "names", .meth "Parts" "__contains__", .meth "Parts" "__getitem__", .meth "Container" "faults", .meth "Container" "things", .meth "Container" "waiting", .meth "Container" "is_open", .meth "Container" "need_request"]
def hfa4 : List He.Fa := [.meth "Container" "ancestor", .meth "Container" "place_of", .meth "Container" "get", .meth "Container" "make", .meth "Container" "wanted", .meth "Container" "use_thing", .meth "Container" "let_loose", .meth "Container" "end_thing", .meth "Container" "shut", .meth "Container" "is_quiet", .meth "Container" "attached", .meth "Container" "finish", .meth "Container" "begin", .meth "Container" "opened", .meth "Container" "close", .meth "Container" "ask", .meth "Container" "use", .meth "Container" "later", .meth "Container" "run", .meth "Container" "do", .meth "Container" "answer"]
def hfa : List He.Fa := hfa0 ++ (hfa1 ++ (hfa2 ++ (hfa3 ++ (hfa4))))
def hfn0 : List He.DefD := [dd ("is_one_of", none) "is_one_of" "is_one_of" s_is_one_of, dd ("are_bars", none) "are_bars" "are_bars" s_are_bars, dd ("need_field", none) "need_field" "need_field" s_need_field, dd ("need_book", none) "need_book" "need_book" s_need_book, dd ("is_number", none) "is_number" "is_number" s_is_number, dd ("is_part_name", none) "is_part_name" "is_part_name" s_is_part_name, dd ("is_want", none) "is_want" "is_want" s_is_want, dd ("are_wants", none) "are_wants" "are_wants" s_are_wants, dd ("are_named", none) "are_named" "are_named" s_are_named, dd ("is_fitting", none) "is_fitting" "is_fitting" s_is_fitting, dd ("wanted_by", none) "wanted_by" "wanted_by" s_wanted_by, dd ("need_parts", none) "need_parts" "need_parts" s_need_parts, dd ("need_part", none) "need_part" "need_part" s_need_part, dd ("bar_of", none) "bar_of" "bar_of" s_bar_of, dd ("broken_bars", none) "broken_bars" "broken_bars" s_broken_bars, dd ("is_deed", none) "is_deed" "is_deed" s_is_deed, dd ("played", none) "played" "played" s_played, dd ("replayed", none) "replayed" "replayed" s_replayed, dd ("answers_of", none) "answers_of" "answers_of" s_answers_of, dd ("_law_begun", none) "_law_begun" "_law_begun" s__law_begun, dd ("_law_mixed", none) "_law_mixed" "_law_mixed" s__law_mixed, dd ("_law_take", none) "_law_take" "_law_take" s__law_take, dd ("_law_pick", none) "_law_pick" "_law_pick" s__law_pick, dd ("_law_shuffled", none) "_law_shuffled" "_law_shuffled" s__law_shuffled, dd ("_law_drawn_fields", none) "_law_drawn_fields" "_law_drawn_fields" s__law_drawn_fields, dd ("_law_book", none) "_law_book" "_law_book" s__law_book, dd ("_law_parts", none) "_law_parts" "_law_parts" s__law_parts, dd ("_law_begun_deeds", none) "_law_begun_deeds" "_law_begun_deeds" s__law_begun_deeds, dd ("_law_small_parts", none) "_law_small_parts" "_law_small_parts" s__law_small_parts, dd ("_law_shop_deed", none) "_law_shop_deed" "_law_shop_deed" s__law_shop_deed]
def hfn1 : List He.DefD := [dd ("_law_level", none) "_law_level" "_law_level" s__law_level, dd ("_law_deeds", none) "_law_deeds" "_law_deeds" s__law_deeds, dd ("_law_as_works", none) "_law_as_works" "_law_as_works" s__law_as_works, dd ("_law_returned", none) "_law_returned" "_law_returned" s__law_returned, dd ("law", none) "law" "law" s_law, { dd ("Book", some "__init__") "__init__" "Book.__init__" s_Book___init__ with kwd := [("held", .str "home")] }, { dd ("Part", some "__init__") "__init__" "Part.__init__" s_Part___init__ with dfl := [.adr (He.dflAt ("Part", some "__init__") 0)] }, dd ("Parts", some "__init__") "__init__" "Parts.__init__" s_Parts___init__, dd ("Parts", some "names") "names" "Parts.names" s_Parts_names, dd ("Parts", some "__contains__") "__contains__" "Parts.__contains__" s_Parts___contains__, dd ("Parts", some "__getitem__") "__getitem__" "Parts.__getitem__" s_Parts___getitem__, dd ("Scope", some "__init__") "__init__" "Scope.__init__" s_Scope___init__, dd ("Thing", some "__init__") "__init__" "Thing.__init__" s_Thing___init__, dd ("Container", some "__init__") "__init__" "Container.__init__" s_Container___init__, dd ("Container", some "faults") "faults" "Container.faults" s_Container_faults, dd ("Container", some "things") "things" "Container.things" s_Container_things, dd ("Container", some "waiting") "waiting" "Container.waiting" s_Container_waiting, dd ("Container", some "is_open") "is_open" "Container.is_open" s_Container_is_open, dd ("Container", some "need_request") "need_request" "Container.need_request" s_Container_need_request, dd ("Container", some "ancestor") "ancestor" "Container.ancestor" s_Container_ancestor, dd ("Container", some "place_of") "place_of" "Container.place_of" s_Container_place_of, dd ("Container", some "get") "get" "Container.get" s_Container_get, dd ("Container", some "make") "make" "Container.make" s_Container_make, dd ("Container", some "wanted") "wanted" "Container.wanted" s_Container_wanted, dd ("Container", some "use_thing") "use_thing" "Container.use_thing" s_Container_use_thing, dd ("Container", some "let_loose") "let_loose" "Container.let_loose" s_Container_let_loose, dd ("Container", some "end_thing") "end_thing" "Container.end_thing" s_Container_end_thing, dd ("Container", some "shut") "shut" "Container.shut" s_Container_shut, dd ("Container", some "is_quiet") "is_quiet" "Container.is_quiet" s_Container_is_quiet, dd ("Container", some "attached") "attached" "Container.attached" s_Container_attached]
def hfn2 : List He.DefD := [dd ("Container", some "finish") "finish" "Container.finish" s_Container_finish, dd ("Container", some "begin") "begin" "Container.begin" s_Container_begin, dd ("Container", some "opened") "opened" "Container.opened" s_Container_opened, dd ("Container", some "close") "close" "Container.close" s_Container_close, dd ("Container", some "ask") "ask" "Container.ask" s_Container_ask, dd ("Container", some "use") "use" "Container.use" s_Container_use, dd ("Container", some "later") "later" "Container.later" s_Container_later, dd ("Container", some "run") "run" "Container.run" s_Container_run, dd ("Container", some "do") "do" "Container.do" s_Container_do, dd ("Container", some "answer") "answer" "Container.answer" s_Container_answer]
def hfn : List He.DefD := hfn0 ++ (hfn1 ++ (hfn2))
def hpg0 : List PgD := [⟨"Book", "held", dd ("Book", some "held") "held" "Book.held" s_Book_held⟩, ⟨"Book", "each", dd ("Book", some "each") "each" "Book.each" s_Book_each⟩, ⟨"Book", "lifted", dd ("Book", some "lifted") "lifted" "Book.lifted" s_Book_lifted⟩, ⟨"Book", "ends", dd ("Book", some "ends") "ends" "Book.ends" s_Book_ends⟩, ⟨"Book", "works", dd ("Book", some "works") "works" "Book.works" s_Book_works⟩, ⟨"Book", "bars", dd ("Book", some "bars") "bars" "Book.bars" s_Book_bars⟩, ⟨"Part", "life", dd ("Part", some "life") "life" "Part.life" s_Part_life⟩, ⟨"Part", "wants", dd ("Part", some "wants") "wants" "Part.wants" s_Part_wants⟩, ⟨"Parts", "depth", dd ("Parts", some "depth") "depth" "Parts.depth" s_Parts_depth⟩, ⟨"Container", "book", dd ("Container", some "book") "book" "Container.book" s_Container_book⟩, ⟨"Container", "parts", dd ("Container", some "parts") "parts" "Container.parts" s_Container_parts⟩, ⟨"Container", "scopes", dd ("Container", some "scopes") "scopes" "Container.scopes" s_Container_scopes⟩]
def hpg : List PgD := hpg0
def hts : List He.Tab := [(fun K => He.ga K "SIZES", ["begin", "close", "ask", "use", "later", "run"])]
def hexs (K : PySem.W.Frag) : List Bool := [He.tupB K "BARS" [.str "each-shorter", .str "each-use", .str "held-shorter", .str "held-use", .str "use-each", .str "use-held"],
  He.tupB K "HELD_books" [.str "home", .str "now"],
  He.tupB K "EACH_books" [.str "now", .str "program"],
  He.tupB K "LIFTED" [.str "nothing", .str "kept"],
  He.tupB K "ENDS" [.str "holder", .str "never", .str "scope"],
  He.tupB K "WORKS" [.str "own", .str "same", .str "wait"],
  ownB K "Book",
  ownB K "Part",
  ownB K "Parts",
  PySem.W.fnIn K (He.ma K (He.ga K "Parts") "__getitem__"),
  He.valsB K (He.ga K "SIZES") [("begin", .int 2), ("close", .int 2), ("ask", .int 3), ("use", .int 3), ("later", .int 3), ("run", .int 2)]]
def hex (K : PySem.W.Frag) : Bool := (hexs K).all fun b => b
def hnames0 : List Str := ["_wall", "LifeError", "BadBook", "BadPart", "BadDepth", "BadParts", "NoPart", "Barred", "NoScope", "Busy", "Waiting", "NoRequest", "NoWork", "BadDeed", "BARS", "HELD_books", "EACH_books", "LIFTED", "ENDS", "WORKS", "is_one_of", "are_bars", "need_field", "Book", "need_book", "USE", "MOST_LIFE", "MOST_DEPTH", "MOST_PARTS", "LONGEST_NAME"]
def hnames1 : List Str := ["LETTERS", "HELD_parts", "EACH_parts", "is_number", "is_part_name", "is_want", "are_wants", "Part", "are_named", "is_fitting", "wanted_by", "Parts", "need_parts", "need_part", "bar_of", "broken_bars", "SIZES", "Scope", "Thing", "is_deed", "Container", "played", "replayed", "answers_of", "_law_begun", "_law_mixed", "_law_take", "_law_pick", "_law_shuffled", "_law_drawn_fields"]
def hnames2 : List Str := ["_law_book", "_law_parts", "_law_begun_deeds", "_law_small_parts", "_law_shop_deed", "_law_level", "_law_deeds", "_law_as_works", "_law_returned"]
def hnames : List Str := hnames0 ++ (hnames1 ++ (hnames2))
abbrev R : PySem.W.OpenRow := PySem.W.OpenLaw.row PySem.Challenge.rw_heldlives_k94_whole_uses_and_works_at_on
def hcs : List Str := ["Book", "Container", "Part", "Parts", "Scope", "Thing"]
def hxs : List Str := ["BARS", "HELD_books", "EACH_books", "LIFTED", "ENDS", "WORKS", "SIZES"]
abbrev hk : PySem.W.Hook := hookP hcs hxs hfa hfn hts hex hpg
def hob (s : PySem.W.SharedT) : AlP := obsPG hcs hxs hfa hfn hts hex hpg (HandSHeadRun.getT s)
theorem hob_eq (s : PySem.W.SharedT) : hob s = hk.obs s.abs := obsPG_eq (HandSHeadRun.getT_eq s)
end K94
set_option maxHeartbeats 0
/-! the runs (printed by genhd.py) -/
namespace K94
open PySem PySem.Spec PyProof.Rows L2
noncomputable abbrev hE (w : World) (os : OsState) : Option PySem.W.SharedT := HandSHeadRun.endF (HandSHeadRun.stepQ (HandSHeadRun.denQ HandSHeadRun.tabQ) R.prog w) 12000 R.prog w os
def RunA (w : World) : Prop := ∀ os : OsState, (hE w os).map (fun s => (HandSHeadRun.looksF R.prog (PySem.W.boot_heap w.params) s.abs, HandSHeadRun.seenQ (PySem.W.view R.prog [75]) hnames (PySem.importedModules R.prog.main.body) (fun s => PySem.W.xlAt (PySem.W.view R.prog [75]) [] s && PySem.W.recOk R.toRowW.records s) s.abs)) = some (true, PySem.W.openGood (PySem.W.view R.prog [75]) hnames)
def RunB (w : World) : Prop := ∀ os : OsState, (hE w os).map hob = some (hk.val w)
theorem runA0 (w : World) : RunA (w.withFollow "special-get-raises" false) := by
  intro os
  kernel_rfl
theorem runA1 (w : World) : RunA (w.withFollow "special-get-raises" true) := by
  intro os
  kernel_rfl
theorem runB0 (w : World) : RunB (w.withFollow "special-get-raises" false) := by
  intro os
  kernel_rfl
theorem runB1 (w : World) : RunB (w.withFollow "special-get-raises" true) := by
  intro os
  kernel_rfl
theorem join3 {σ α β γ : Type} {x : Option σ} {f : σ → α} {g : σ → β} {h : σ → γ} {a : α} {b : β} {c : γ} (h1 : x.map (fun s => (f s, g s)) = some (a, b)) (h2 : x.map h = some c) : x.map (fun s => (f s, g s, h s)) = some (a, b, c) := by
  cases x with
  | none => cases h1
  | some s =>
    have e1 : (f s, g s) = (a, b) := Option.some.inj h1
    have e2 : h s = c := Option.some.inj h2
    show some (f s, g s, h s) = _
    rw [(Prod.mk.inj e1).1, (Prod.mk.inj e1).2, e2]
theorem run (w : World) : HandSHeadRun.RunEq R (PySem.W.view R.prog [75]) hk hob 12000 hnames w := fun os =>
  join3 (PySem.W.byRow2 "special-get-raises" (P := RunA) runA0 runA1 w os) (PySem.W.byRow2 "special-get-raises" (P := RunB) runB0 runB1 w os)
end K94
set_option maxHeartbeats 2000000
/-! the fields of the instances (printed by genfs.py) -/
namespace K94
open PySem PySem.Spec PyProof.Rows L2
def fsPart (v0 v1 : V) : List (Str × V) := [("p_life", v0), ("p_wants", v1)]
theorem lk_Part_p_life {v0 v1 : V} : (fsPart v0 v1).lookup ("p_life" : Str) = some v0 := by kernel_rfl
theorem lk_Part_p_wants {v0 v1 : V} : (fsPart v0 v1).lookup ("p_wants" : Str) = some v1 := by kernel_rfl
theorem no_Part_life {v0 v1 : V} : (fsPart v0 v1).lookup ("life" : Str) = none := by kernel_rfl
theorem no_Part_wants {v0 v1 : V} : (fsPart v0 v1).lookup ("wants" : Str) = none := by kernel_rfl
theorem len_Part {v0 v1 : V} : (fsPart v0 v1).length < 1000 := of_decide_eq_true (by kernel_rfl)
theorem pf_Part_p_life {v0 v1 z : V} : putF ("p_life" : Str) z (fsPart v0 v1) = fsPart z v1 := by kernel_rfl
theorem pf_Part_p_wants {v0 v1 z : V} : putF ("p_wants" : Str) z (fsPart v0 v1) = fsPart v0 z := by kernel_rfl
theorem ln_Part_0 : (([] : List (Str × V))).length < 1000 := of_decide_eq_true (by kernel_rfl)
theorem ln_Part_1 {v0 : V} : (putF ("p_life" : Str) v0 (([] : List (Str × V)))).length < 1000 := of_decide_eq_true (by kernel_rfl)
theorem mk_Part {v0 v1 : V} : putF ("p_wants" : Str) v1 (putF ("p_life" : Str) v0 (([] : List (Str × V)))) = fsPart v0 v1 := by kernel_rfl
def fsParts (v0 v1 : V) : List (Str × V) := [("g_depth", v0), ("g_parts", v1)]
theorem lk_Parts_g_depth {v0 v1 : V} : (fsParts v0 v1).lookup ("g_depth" : Str) = some v0 := by kernel_rfl
theorem lk_Parts_g_parts {v0 v1 : V} : (fsParts v0 v1).lookup ("g_parts" : Str) = some v1 := by kernel_rfl
theorem no_Parts_depth {v0 v1 : V} : (fsParts v0 v1).lookup ("depth" : Str) = none := by kernel_rfl
theorem no_Parts_names {v0 v1 : V} : (fsParts v0 v1).lookup ("names" : Str) = none := by kernel_rfl
theorem no_Parts_with_part {v0 v1 : V} : (fsParts v0 v1).lookup ("with_part" : Str) = none := by kernel_rfl
theorem no_Parts_put_off {v0 v1 : V} : (fsParts v0 v1).lookup ("put_off" : Str) = none := by kernel_rfl
theorem no_Parts_with_life {v0 v1 : V} : (fsParts v0 v1).lookup ("with_life" : Str) = none := by kernel_rfl
theorem len_Parts {v0 v1 : V} : (fsParts v0 v1).length < 1000 := of_decide_eq_true (by kernel_rfl)
theorem pf_Parts_g_depth {v0 v1 z : V} : putF ("g_depth" : Str) z (fsParts v0 v1) = fsParts z v1 := by kernel_rfl
theorem pf_Parts_g_parts {v0 v1 z : V} : putF ("g_parts" : Str) z (fsParts v0 v1) = fsParts v0 z := by kernel_rfl
theorem ln_Parts_0 : (([] : List (Str × V))).length < 1000 := of_decide_eq_true (by kernel_rfl)
theorem ln_Parts_1 {v0 : V} : (putF ("g_depth" : Str) v0 (([] : List (Str × V)))).length < 1000 := of_decide_eq_true (by kernel_rfl)
theorem mk_Parts {v0 v1 : V} : putF ("g_parts" : Str) v1 (putF ("g_depth" : Str) v0 (([] : List (Str × V)))) = fsParts v0 v1 := by kernel_rfl
def fsBook (v0 v1 v2 v3 v4 v5 : V) : List (Str × V) := [("b_held", v0), ("b_each", v1), ("b_lifted", v2), ("b_ends", v3), ("b_works", v4), ("b_bars", v5)]
theorem lk_Book_b_held {v0 v1 v2 v3 v4 v5 : V} : (fsBook v0 v1 v2 v3 v4 v5).lookup ("b_held" : Str) = some v0 := by kernel_rfl
theorem lk_Book_b_each {v0 v1 v2 v3 v4 v5 : V} : (fsBook v0 v1 v2 v3 v4 v5).lookup ("b_each" : Str) = some v1 := by kernel_rfl
theorem lk_Book_b_lifted {v0 v1 v2 v3 v4 v5 : V} : (fsBook v0 v1 v2 v3 v4 v5).lookup ("b_lifted" : Str) = some v2 := by kernel_rfl
theorem lk_Book_b_ends {v0 v1 v2 v3 v4 v5 : V} : (fsBook v0 v1 v2 v3 v4 v5).lookup ("b_ends" : Str) = some v3 := by kernel_rfl
theorem lk_Book_b_works {v0 v1 v2 v3 v4 v5 : V} : (fsBook v0 v1 v2 v3 v4 v5).lookup ("b_works" : Str) = some v4 := by kernel_rfl
theorem lk_Book_b_bars {v0 v1 v2 v3 v4 v5 : V} : (fsBook v0 v1 v2 v3 v4 v5).lookup ("b_bars" : Str) = some v5 := by kernel_rfl
theorem no_Book_held {v0 v1 v2 v3 v4 v5 : V} : (fsBook v0 v1 v2 v3 v4 v5).lookup ("held" : Str) = none := by kernel_rfl
theorem no_Book_each {v0 v1 v2 v3 v4 v5 : V} : (fsBook v0 v1 v2 v3 v4 v5).lookup ("each" : Str) = none := by kernel_rfl
theorem no_Book_lifted {v0 v1 v2 v3 v4 v5 : V} : (fsBook v0 v1 v2 v3 v4 v5).lookup ("lifted" : Str) = none := by kernel_rfl
theorem no_Book_ends {v0 v1 v2 v3 v4 v5 : V} : (fsBook v0 v1 v2 v3 v4 v5).lookup ("ends" : Str) = none := by kernel_rfl
theorem no_Book_works {v0 v1 v2 v3 v4 v5 : V} : (fsBook v0 v1 v2 v3 v4 v5).lookup ("works" : Str) = none := by kernel_rfl
theorem no_Book_bars {v0 v1 v2 v3 v4 v5 : V} : (fsBook v0 v1 v2 v3 v4 v5).lookup ("bars" : Str) = none := by kernel_rfl
theorem no_Book_choices {v0 v1 v2 v3 v4 v5 : V} : (fsBook v0 v1 v2 v3 v4 v5).lookup ("choices" : Str) = none := by kernel_rfl
theorem no_Book_with_bars {v0 v1 v2 v3 v4 v5 : V} : (fsBook v0 v1 v2 v3 v4 v5).lookup ("with_bars" : Str) = none := by kernel_rfl
theorem len_Book {v0 v1 v2 v3 v4 v5 : V} : (fsBook v0 v1 v2 v3 v4 v5).length < 1000 := of_decide_eq_true (by kernel_rfl)
theorem pf_Book_b_held {v0 v1 v2 v3 v4 v5 z : V} : putF ("b_held" : Str) z (fsBook v0 v1 v2 v3 v4 v5) = fsBook z v1 v2 v3 v4 v5 := by kernel_rfl
theorem pf_Book_b_each {v0 v1 v2 v3 v4 v5 z : V} : putF ("b_each" : Str) z (fsBook v0 v1 v2 v3 v4 v5) = fsBook v0 z v2 v3 v4 v5 := by kernel_rfl
theorem pf_Book_b_lifted {v0 v1 v2 v3 v4 v5 z : V} : putF ("b_lifted" : Str) z (fsBook v0 v1 v2 v3 v4 v5) = fsBook v0 v1 z v3 v4 v5 := by kernel_rfl
theorem pf_Book_b_ends {v0 v1 v2 v3 v4 v5 z : V} : putF ("b_ends" : Str) z (fsBook v0 v1 v2 v3 v4 v5) = fsBook v0 v1 v2 z v4 v5 := by kernel_rfl
theorem pf_Book_b_works {v0 v1 v2 v3 v4 v5 z : V} : putF ("b_works" : Str) z (fsBook v0 v1 v2 v3 v4 v5) = fsBook v0 v1 v2 v3 z v5 := by kernel_rfl
theorem pf_Book_b_bars {v0 v1 v2 v3 v4 v5 z : V} : putF ("b_bars" : Str) z (fsBook v0 v1 v2 v3 v4 v5) = fsBook v0 v1 v2 v3 v4 z := by kernel_rfl
theorem ln_Book_0 : (([] : List (Str × V))).length < 1000 := of_decide_eq_true (by kernel_rfl)
theorem ln_Book_1 {v0 : V} : (putF ("b_held" : Str) v0 (([] : List (Str × V)))).length < 1000 := of_decide_eq_true (by kernel_rfl)
theorem ln_Book_2 {v0 v1 : V} : (putF ("b_each" : Str) v1 (putF ("b_held" : Str) v0 (([] : List (Str × V))))).length < 1000 := of_decide_eq_true (by kernel_rfl)
theorem ln_Book_3 {v0 v1 v2 : V} : (putF ("b_lifted" : Str) v2 (putF ("b_each" : Str) v1 (putF ("b_held" : Str) v0 (([] : List (Str × V)))))).length < 1000 := of_decide_eq_true (by kernel_rfl)
theorem ln_Book_4 {v0 v1 v2 v3 : V} : (putF ("b_ends" : Str) v3 (putF ("b_lifted" : Str) v2 (putF ("b_each" : Str) v1 (putF ("b_held" : Str) v0 (([] : List (Str × V))))))).length < 1000 := of_decide_eq_true (by kernel_rfl)
theorem ln_Book_5 {v0 v1 v2 v3 v4 : V} : (putF ("b_works" : Str) v4 (putF ("b_ends" : Str) v3 (putF ("b_lifted" : Str) v2 (putF ("b_each" : Str) v1 (putF ("b_held" : Str) v0 (([] : List (Str × V)))))))).length < 1000 := of_decide_eq_true (by kernel_rfl)
theorem mk_Book {v0 v1 v2 v3 v4 v5 : V} : putF ("b_bars" : Str) v5 (putF ("b_works" : Str) v4 (putF ("b_ends" : Str) v3 (putF ("b_lifted" : Str) v2 (putF ("b_each" : Str) v1 (putF ("b_held" : Str) v0 (([] : List (Str × V)))))))) = fsBook v0 v1 v2 v3 v4 v5 := by kernel_rfl
def fsScope (v0 v1 v2 : V) : List (Str × V) := [("level", v0), ("under", v1), ("alive", v2)]
theorem lk_Scope_level {v0 v1 v2 : V} : (fsScope v0 v1 v2).lookup ("level" : Str) = some v0 := by kernel_rfl
theorem lk_Scope_under {v0 v1 v2 : V} : (fsScope v0 v1 v2).lookup ("under" : Str) = some v1 := by kernel_rfl
theorem lk_Scope_alive {v0 v1 v2 : V} : (fsScope v0 v1 v2).lookup ("alive" : Str) = some v2 := by kernel_rfl
theorem no_Scope_twin {v0 v1 v2 : V} : (fsScope v0 v1 v2).lookup ("twin" : Str) = none := by kernel_rfl
theorem len_Scope {v0 v1 v2 : V} : (fsScope v0 v1 v2).length < 1000 := of_decide_eq_true (by kernel_rfl)
theorem pf_Scope_level {v0 v1 v2 z : V} : putF ("level" : Str) z (fsScope v0 v1 v2) = fsScope z v1 v2 := by kernel_rfl
theorem pf_Scope_under {v0 v1 v2 z : V} : putF ("under" : Str) z (fsScope v0 v1 v2) = fsScope v0 z v2 := by kernel_rfl
theorem pf_Scope_alive {v0 v1 v2 z : V} : putF ("alive" : Str) z (fsScope v0 v1 v2) = fsScope v0 v1 z := by kernel_rfl
theorem ln_Scope_0 : (([] : List (Str × V))).length < 1000 := of_decide_eq_true (by kernel_rfl)
theorem ln_Scope_1 {v0 : V} : (putF ("level" : Str) v0 (([] : List (Str × V)))).length < 1000 := of_decide_eq_true (by kernel_rfl)
theorem ln_Scope_2 {v0 v1 : V} : (putF ("under" : Str) v1 (putF ("level" : Str) v0 (([] : List (Str × V))))).length < 1000 := of_decide_eq_true (by kernel_rfl)
theorem mk_Scope {v0 v1 v2 : V} : putF ("alive" : Str) v2 (putF ("under" : Str) v1 (putF ("level" : Str) v0 (([] : List (Str × V))))) = fsScope v0 v1 v2 := by kernel_rfl
def fsThing (v0 v1 v2 v3 : V) : List (Str × V) := [("name", v0), ("home", v1), ("got", v2), ("ended", v3)]
theorem lk_Thing_name {v0 v1 v2 v3 : V} : (fsThing v0 v1 v2 v3).lookup ("name" : Str) = some v0 := by kernel_rfl
theorem lk_Thing_home {v0 v1 v2 v3 : V} : (fsThing v0 v1 v2 v3).lookup ("home" : Str) = some v1 := by kernel_rfl
theorem lk_Thing_got {v0 v1 v2 v3 : V} : (fsThing v0 v1 v2 v3).lookup ("got" : Str) = some v2 := by kernel_rfl
theorem lk_Thing_ended {v0 v1 v2 v3 : V} : (fsThing v0 v1 v2 v3).lookup ("ended" : Str) = some v3 := by kernel_rfl
theorem no_Thing_twin {v0 v1 v2 v3 : V} : (fsThing v0 v1 v2 v3).lookup ("twin" : Str) = none := by kernel_rfl
theorem len_Thing {v0 v1 v2 v3 : V} : (fsThing v0 v1 v2 v3).length < 1000 := of_decide_eq_true (by kernel_rfl)
theorem pf_Thing_name {v0 v1 v2 v3 z : V} : putF ("name" : Str) z (fsThing v0 v1 v2 v3) = fsThing z v1 v2 v3 := by kernel_rfl
theorem pf_Thing_home {v0 v1 v2 v3 z : V} : putF ("home" : Str) z (fsThing v0 v1 v2 v3) = fsThing v0 z v2 v3 := by kernel_rfl
theorem pf_Thing_got {v0 v1 v2 v3 z : V} : putF ("got" : Str) z (fsThing v0 v1 v2 v3) = fsThing v0 v1 z v3 := by kernel_rfl
theorem pf_Thing_ended {v0 v1 v2 v3 z : V} : putF ("ended" : Str) z (fsThing v0 v1 v2 v3) = fsThing v0 v1 v2 z := by kernel_rfl
theorem ln_Thing_0 : (([] : List (Str × V))).length < 1000 := of_decide_eq_true (by kernel_rfl)
theorem ln_Thing_1 {v0 : V} : (putF ("name" : Str) v0 (([] : List (Str × V)))).length < 1000 := of_decide_eq_true (by kernel_rfl)
theorem ln_Thing_2 {v0 v1 : V} : (putF ("home" : Str) v1 (putF ("name" : Str) v0 (([] : List (Str × V))))).length < 1000 := of_decide_eq_true (by kernel_rfl)
theorem ln_Thing_3 {v0 v1 v2 : V} : (putF ("got" : Str) v2 (putF ("home" : Str) v1 (putF ("name" : Str) v0 (([] : List (Str × V)))))).length < 1000 := of_decide_eq_true (by kernel_rfl)
theorem mk_Thing {v0 v1 v2 v3 : V} : putF ("ended" : Str) v3 (putF ("got" : Str) v2 (putF ("home" : Str) v1 (putF ("name" : Str) v0 (([] : List (Str × V)))))) = fsThing v0 v1 v2 v3 := by kernel_rfl
def fsContainer (v0 v1 v2 v3 v4 v5 v6 v7 v8 v9 v10 : V) : List (Str × V) := [("c_book", v0), ("c_parts", v1), ("c_scopes", v2), ("c_things", v3), ("c_kept", v4), ("c_works", v5), ("c_put_off", v6), ("c_loose", v7), ("c_left", v8), ("c_faults", v9), ("c_deeds", v10)]
theorem lk_Container_c_book {v0 v1 v2 v3 v4 v5 v6 v7 v8 v9 v10 : V} : (fsContainer v0 v1 v2 v3 v4 v5 v6 v7 v8 v9 v10).lookup ("c_book" : Str) = some v0 := by kernel_rfl
theorem lk_Container_c_parts {v0 v1 v2 v3 v4 v5 v6 v7 v8 v9 v10 : V} : (fsContainer v0 v1 v2 v3 v4 v5 v6 v7 v8 v9 v10).lookup ("c_parts" : Str) = some v1 := by kernel_rfl
theorem lk_Container_c_scopes {v0 v1 v2 v3 v4 v5 v6 v7 v8 v9 v10 : V} : (fsContainer v0 v1 v2 v3 v4 v5 v6 v7 v8 v9 v10).lookup ("c_scopes" : Str) = some v2 := by kernel_rfl
theorem lk_Container_c_things {v0 v1 v2 v3 v4 v5 v6 v7 v8 v9 v10 : V} : (fsContainer v0 v1 v2 v3 v4 v5 v6 v7 v8 v9 v10).lookup ("c_things" : Str) = some v3 := by kernel_rfl
theorem lk_Container_c_kept {v0 v1 v2 v3 v4 v5 v6 v7 v8 v9 v10 : V} : (fsContainer v0 v1 v2 v3 v4 v5 v6 v7 v8 v9 v10).lookup ("c_kept" : Str) = some v4 := by kernel_rfl
theorem lk_Container_c_works {v0 v1 v2 v3 v4 v5 v6 v7 v8 v9 v10 : V} : (fsContainer v0 v1 v2 v3 v4 v5 v6 v7 v8 v9 v10).lookup ("c_works" : Str) = some v5 := by kernel_rfl
theorem lk_Container_c_put_off {v0 v1 v2 v3 v4 v5 v6 v7 v8 v9 v10 : V} : (fsContainer v0 v1 v2 v3 v4 v5 v6 v7 v8 v9 v10).lookup ("c_put_off" : Str) = some v6 := by kernel_rfl
theorem lk_Container_c_loose {v0 v1 v2 v3 v4 v5 v6 v7 v8 v9 v10 : V} : (fsContainer v0 v1 v2 v3 v4 v5 v6 v7 v8 v9 v10).lookup ("c_loose" : Str) = some v7 := by kernel_rfl
theorem lk_Container_c_left {v0 v1 v2 v3 v4 v5 v6 v7 v8 v9 v10 : V} : (fsContainer v0 v1 v2 v3 v4 v5 v6 v7 v8 v9 v10).lookup ("c_left" : Str) = some v8 := by kernel_rfl
theorem lk_Container_c_faults {v0 v1 v2 v3 v4 v5 v6 v7 v8 v9 v10 : V} : (fsContainer v0 v1 v2 v3 v4 v5 v6 v7 v8 v9 v10).lookup ("c_faults" : Str) = some v9 := by kernel_rfl
theorem lk_Container_c_deeds {v0 v1 v2 v3 v4 v5 v6 v7 v8 v9 v10 : V} : (fsContainer v0 v1 v2 v3 v4 v5 v6 v7 v8 v9 v10).lookup ("c_deeds" : Str) = some v10 := by kernel_rfl
theorem no_Container_book {v0 v1 v2 v3 v4 v5 v6 v7 v8 v9 v10 : V} : (fsContainer v0 v1 v2 v3 v4 v5 v6 v7 v8 v9 v10).lookup ("book" : Str) = none := by kernel_rfl
theorem no_Container_parts {v0 v1 v2 v3 v4 v5 v6 v7 v8 v9 v10 : V} : (fsContainer v0 v1 v2 v3 v4 v5 v6 v7 v8 v9 v10).lookup ("parts" : Str) = none := by kernel_rfl
theorem no_Container_scopes {v0 v1 v2 v3 v4 v5 v6 v7 v8 v9 v10 : V} : (fsContainer v0 v1 v2 v3 v4 v5 v6 v7 v8 v9 v10).lookup ("scopes" : Str) = none := by kernel_rfl
theorem no_Container_faults {v0 v1 v2 v3 v4 v5 v6 v7 v8 v9 v10 : V} : (fsContainer v0 v1 v2 v3 v4 v5 v6 v7 v8 v9 v10).lookup ("faults" : Str) = none := by kernel_rfl
theorem no_Container_things {v0 v1 v2 v3 v4 v5 v6 v7 v8 v9 v10 : V} : (fsContainer v0 v1 v2 v3 v4 v5 v6 v7 v8 v9 v10).lookup ("things" : Str) = none := by kernel_rfl
theorem no_Container_waiting {v0 v1 v2 v3 v4 v5 v6 v7 v8 v9 v10 : V} : (fsContainer v0 v1 v2 v3 v4 v5 v6 v7 v8 v9 v10).lookup ("waiting" : Str) = none := by kernel_rfl
theorem no_Container_copy {v0 v1 v2 v3 v4 v5 v6 v7 v8 v9 v10 : V} : (fsContainer v0 v1 v2 v3 v4 v5 v6 v7 v8 v9 v10).lookup ("copy" : Str) = none := by kernel_rfl
theorem no_Container_is_open {v0 v1 v2 v3 v4 v5 v6 v7 v8 v9 v10 : V} : (fsContainer v0 v1 v2 v3 v4 v5 v6 v7 v8 v9 v10).lookup ("is_open" : Str) = none := by kernel_rfl
theorem no_Container_need_request {v0 v1 v2 v3 v4 v5 v6 v7 v8 v9 v10 : V} : (fsContainer v0 v1 v2 v3 v4 v5 v6 v7 v8 v9 v10).lookup ("need_request" : Str) = none := by kernel_rfl
theorem no_Container_ancestor {v0 v1 v2 v3 v4 v5 v6 v7 v8 v9 v10 : V} : (fsContainer v0 v1 v2 v3 v4 v5 v6 v7 v8 v9 v10).lookup ("ancestor" : Str) = none := by kernel_rfl
theorem no_Container_place_of {v0 v1 v2 v3 v4 v5 v6 v7 v8 v9 v10 : V} : (fsContainer v0 v1 v2 v3 v4 v5 v6 v7 v8 v9 v10).lookup ("place_of" : Str) = none := by kernel_rfl
theorem no_Container_get {v0 v1 v2 v3 v4 v5 v6 v7 v8 v9 v10 : V} : (fsContainer v0 v1 v2 v3 v4 v5 v6 v7 v8 v9 v10).lookup ("get" : Str) = none := by kernel_rfl
theorem no_Container_make {v0 v1 v2 v3 v4 v5 v6 v7 v8 v9 v10 : V} : (fsContainer v0 v1 v2 v3 v4 v5 v6 v7 v8 v9 v10).lookup ("make" : Str) = none := by kernel_rfl
theorem no_Container_wanted {v0 v1 v2 v3 v4 v5 v6 v7 v8 v9 v10 : V} : (fsContainer v0 v1 v2 v3 v4 v5 v6 v7 v8 v9 v10).lookup ("wanted" : Str) = none := by kernel_rfl
theorem no_Container_use_thing {v0 v1 v2 v3 v4 v5 v6 v7 v8 v9 v10 : V} : (fsContainer v0 v1 v2 v3 v4 v5 v6 v7 v8 v9 v10).lookup ("use_thing" : Str) = none := by kernel_rfl
theorem no_Container_let_loose {v0 v1 v2 v3 v4 v5 v6 v7 v8 v9 v10 : V} : (fsContainer v0 v1 v2 v3 v4 v5 v6 v7 v8 v9 v10).lookup ("let_loose" : Str) = none := by kernel_rfl
theorem no_Container_end_thing {v0 v1 v2 v3 v4 v5 v6 v7 v8 v9 v10 : V} : (fsContainer v0 v1 v2 v3 v4 v5 v6 v7 v8 v9 v10).lookup ("end_thing" : Str) = none := by kernel_rfl
theorem no_Container_shut {v0 v1 v2 v3 v4 v5 v6 v7 v8 v9 v10 : V} : (fsContainer v0 v1 v2 v3 v4 v5 v6 v7 v8 v9 v10).lookup ("shut" : Str) = none := by kernel_rfl
theorem no_Container_is_quiet {v0 v1 v2 v3 v4 v5 v6 v7 v8 v9 v10 : V} : (fsContainer v0 v1 v2 v3 v4 v5 v6 v7 v8 v9 v10).lookup ("is_quiet" : Str) = none := by kernel_rfl
theorem no_Container_attached {v0 v1 v2 v3 v4 v5 v6 v7 v8 v9 v10 : V} : (fsContainer v0 v1 v2 v3 v4 v5 v6 v7 v8 v9 v10).lookup ("attached" : Str) = none := by kernel_rfl
theorem no_Container_finish {v0 v1 v2 v3 v4 v5 v6 v7 v8 v9 v10 : V} : (fsContainer v0 v1 v2 v3 v4 v5 v6 v7 v8 v9 v10).lookup ("finish" : Str) = none := by kernel_rfl
theorem no_Container_begin {v0 v1 v2 v3 v4 v5 v6 v7 v8 v9 v10 : V} : (fsContainer v0 v1 v2 v3 v4 v5 v6 v7 v8 v9 v10).lookup ("begin" : Str) = none := by kernel_rfl
theorem no_Container_opened {v0 v1 v2 v3 v4 v5 v6 v7 v8 v9 v10 : V} : (fsContainer v0 v1 v2 v3 v4 v5 v6 v7 v8 v9 v10).lookup ("opened" : Str) = none := by kernel_rfl
theorem no_Container_close {v0 v1 v2 v3 v4 v5 v6 v7 v8 v9 v10 : V} : (fsContainer v0 v1 v2 v3 v4 v5 v6 v7 v8 v9 v10).lookup ("close" : Str) = none := by kernel_rfl
theorem no_Container_ask {v0 v1 v2 v3 v4 v5 v6 v7 v8 v9 v10 : V} : (fsContainer v0 v1 v2 v3 v4 v5 v6 v7 v8 v9 v10).lookup ("ask" : Str) = none := by kernel_rfl
theorem no_Container_use {v0 v1 v2 v3 v4 v5 v6 v7 v8 v9 v10 : V} : (fsContainer v0 v1 v2 v3 v4 v5 v6 v7 v8 v9 v10).lookup ("use" : Str) = none := by kernel_rfl
theorem no_Container_later {v0 v1 v2 v3 v4 v5 v6 v7 v8 v9 v10 : V} : (fsContainer v0 v1 v2 v3 v4 v5 v6 v7 v8 v9 v10).lookup ("later" : Str) = none := by kernel_rfl
theorem no_Container_run {v0 v1 v2 v3 v4 v5 v6 v7 v8 v9 v10 : V} : (fsContainer v0 v1 v2 v3 v4 v5 v6 v7 v8 v9 v10).lookup ("run" : Str) = none := by kernel_rfl
theorem no_Container_do {v0 v1 v2 v3 v4 v5 v6 v7 v8 v9 v10 : V} : (fsContainer v0 v1 v2 v3 v4 v5 v6 v7 v8 v9 v10).lookup ("do" : Str) = none := by kernel_rfl
theorem no_Container_answer {v0 v1 v2 v3 v4 v5 v6 v7 v8 v9 v10 : V} : (fsContainer v0 v1 v2 v3 v4 v5 v6 v7 v8 v9 v10).lookup ("answer" : Str) = none := by kernel_rfl
theorem len_Container {v0 v1 v2 v3 v4 v5 v6 v7 v8 v9 v10 : V} : (fsContainer v0 v1 v2 v3 v4 v5 v6 v7 v8 v9 v10).length < 1000 := of_decide_eq_true (by kernel_rfl)
theorem pf_Container_c_book {v0 v1 v2 v3 v4 v5 v6 v7 v8 v9 v10 z : V} : putF ("c_book" : Str) z (fsContainer v0 v1 v2 v3 v4 v5 v6 v7 v8 v9 v10) = fsContainer z v1 v2 v3 v4 v5 v6 v7 v8 v9 v10 := by kernel_rfl
theorem pf_Container_c_parts {v0 v1 v2 v3 v4 v5 v6 v7 v8 v9 v10 z : V} : putF ("c_parts" : Str) z (fsContainer v0 v1 v2 v3 v4 v5 v6 v7 v8 v9 v10) = fsContainer v0 z v2 v3 v4 v5 v6 v7 v8 v9 v10 := by kernel_rfl
theorem pf_Container_c_scopes {v0 v1 v2 v3 v4 v5 v6 v7 v8 v9 v10 z : V} : putF ("c_scopes" : Str) z (fsContainer v0 v1 v2 v3 v4 v5 v6 v7 v8 v9 v10) = fsContainer v0 v1 z v3 v4 v5 v6 v7 v8 v9 v10 := by kernel_rfl
theorem pf_Container_c_things {v0 v1 v2 v3 v4 v5 v6 v7 v8 v9 v10 z : V} : putF ("c_things" : Str) z (fsContainer v0 v1 v2 v3 v4 v5 v6 v7 v8 v9 v10) = fsContainer v0 v1 v2 z v4 v5 v6 v7 v8 v9 v10 := by kernel_rfl
theorem pf_Container_c_kept {v0 v1 v2 v3 v4 v5 v6 v7 v8 v9 v10 z : V} : putF ("c_kept" : Str) z (fsContainer v0 v1 v2 v3 v4 v5 v6 v7 v8 v9 v10) = fsContainer v0 v1 v2 v3 z v5 v6 v7 v8 v9 v10 := by kernel_rfl
theorem pf_Container_c_works {v0 v1 v2 v3 v4 v5 v6 v7 v8 v9 v10 z : V} : putF ("c_works" : Str) z (fsContainer v0 v1 v2 v3 v4 v5 v6 v7 v8 v9 v10) = fsContainer v0 v1 v2 v3 v4 z v6 v7 v8 v9 v10 := by kernel_rfl
theorem pf_Container_c_put_off {v0 v1 v2 v3 v4 v5 v6 v7 v8 v9 v10 z : V} : putF ("c_put_off" : Str) z (fsContainer v0 v1 v2 v3 v4 v5 v6 v7 v8 v9 v10) = fsContainer v0 v1 v2 v3 v4 v5 z v7 v8 v9 v10 := by kernel_rfl
theorem pf_Container_c_loose {v0 v1 v2 v3 v4 v5 v6 v7 v8 v9 v10 z : V} : putF ("c_loose" : Str) z (fsContainer v0 v1 v2 v3 v4 v5 v6 v7 v8 v9 v10) = fsContainer v0 v1 v2 v3 v4 v5 v6 z v8 v9 v10 := by kernel_rfl
theorem pf_Container_c_left {v0 v1 v2 v3 v4 v5 v6 v7 v8 v9 v10 z : V} : putF ("c_left" : Str) z (fsContainer v0 v1 v2 v3 v4 v5 v6 v7 v8 v9 v10) = fsContainer v0 v1 v2 v3 v4 v5 v6 v7 z v9 v10 := by kernel_rfl
theorem pf_Container_c_faults {v0 v1 v2 v3 v4 v5 v6 v7 v8 v9 v10 z : V} : putF ("c_faults" : Str) z (fsContainer v0 v1 v2 v3 v4 v5 v6 v7 v8 v9 v10) = fsContainer v0 v1 v2 v3 v4 v5 v6 v7 v8 z v10 := by kernel_rfl
theorem pf_Container_c_deeds {v0 v1 v2 v3 v4 v5 v6 v7 v8 v9 v10 z : V} : putF ("c_deeds" : Str) z (fsContainer v0 v1 v2 v3 v4 v5 v6 v7 v8 v9 v10) = fsContainer v0 v1 v2 v3 v4 v5 v6 v7 v8 v9 z := by kernel_rfl
theorem ln_Container_0 : (([] : List (Str × V))).length < 1000 := of_decide_eq_true (by kernel_rfl)
theorem ln_Container_1 {v0 : V} : (putF ("c_book" : Str) v0 (([] : List (Str × V)))).length < 1000 := of_decide_eq_true (by kernel_rfl)
theorem ln_Container_2 {v0 v1 : V} : (putF ("c_parts" : Str) v1 (putF ("c_book" : Str) v0 (([] : List (Str × V))))).length < 1000 := of_decide_eq_true (by kernel_rfl)
theorem ln_Container_3 {v0 v1 v2 : V} : (putF ("c_scopes" : Str) v2 (putF ("c_parts" : Str) v1 (putF ("c_book" : Str) v0 (([] : List (Str × V)))))).length < 1000 := of_decide_eq_true (by kernel_rfl)
theorem ln_Container_4 {v0 v1 v2 v3 : V} : (putF ("c_things" : Str) v3 (putF ("c_scopes" : Str) v2 (putF ("c_parts" : Str) v1 (putF ("c_book" : Str) v0 (([] : List (Str × V))))))).length < 1000 := of_decide_eq_true (by kernel_rfl)
theorem ln_Container_5 {v0 v1 v2 v3 v4 : V} : (putF ("c_kept" : Str) v4 (putF ("c_things" : Str) v3 (putF ("c_scopes" : Str) v2 (putF ("c_parts" : Str) v1 (putF ("c_book" : Str) v0 (([] : List (Str × V)))))))).length < 1000 := of_decide_eq_true (by kernel_rfl)
theorem ln_Container_6 {v0 v1 v2 v3 v4 v5 : V} : (putF ("c_works" : Str) v5 (putF ("c_kept" : Str) v4 (putF ("c_things" : Str) v3 (putF ("c_scopes" : Str) v2 (putF ("c_parts" : Str) v1 (putF ("c_book" : Str) v0 (([] : List (Str × V))))))))).length < 1000 := of_decide_eq_true (by kernel_rfl)
theorem ln_Container_7 {v0 v1 v2 v3 v4 v5 v6 : V} : (putF ("c_put_off" : Str) v6 (putF ("c_works" : Str) v5 (putF ("c_kept" : Str) v4 (putF ("c_things" : Str) v3 (putF ("c_scopes" : Str) v2 (putF ("c_parts" : Str) v1 (putF ("c_book" : Str) v0 (([] : List (Str × V)))))))))).length < 1000 := of_decide_eq_true (by kernel_rfl)
theorem ln_Container_8 {v0 v1 v2 v3 v4 v5 v6 v7 : V} : (putF ("c_loose" : Str) v7 (putF ("c_put_off" : Str) v6 (putF ("c_works" : Str) v5 (putF ("c_kept" : Str) v4 (putF ("c_things" : Str) v3 (putF ("c_scopes" : Str) v2 (putF ("c_parts" : Str) v1 (putF ("c_book" : Str) v0 (([] : List (Str × V))))))))))).length < 1000 := of_decide_eq_true (by kernel_rfl)
theorem ln_Container_9 {v0 v1 v2 v3 v4 v5 v6 v7 v8 : V} : (putF ("c_left" : Str) v8 (putF ("c_loose" : Str) v7 (putF ("c_put_off" : Str) v6 (putF ("c_works" : Str) v5 (putF ("c_kept" : Str) v4 (putF ("c_things" : Str) v3 (putF ("c_scopes" : Str) v2 (putF ("c_parts" : Str) v1 (putF ("c_book" : Str) v0 (([] : List (Str × V)))))))))))).length < 1000 := of_decide_eq_true (by kernel_rfl)
theorem ln_Container_10 {v0 v1 v2 v3 v4 v5 v6 v7 v8 v9 : V} : (putF ("c_faults" : Str) v9 (putF ("c_left" : Str) v8 (putF ("c_loose" : Str) v7 (putF ("c_put_off" : Str) v6 (putF ("c_works" : Str) v5 (putF ("c_kept" : Str) v4 (putF ("c_things" : Str) v3 (putF ("c_scopes" : Str) v2 (putF ("c_parts" : Str) v1 (putF ("c_book" : Str) v0 (([] : List (Str × V))))))))))))).length < 1000 := of_decide_eq_true (by kernel_rfl)
theorem mk_Container {v0 v1 v2 v3 v4 v5 v6 v7 v8 v9 v10 : V} : putF ("c_deeds" : Str) v10 (putF ("c_faults" : Str) v9 (putF ("c_left" : Str) v8 (putF ("c_loose" : Str) v7 (putF ("c_put_off" : Str) v6 (putF ("c_works" : Str) v5 (putF ("c_kept" : Str) v4 (putF ("c_things" : Str) v3 (putF ("c_scopes" : Str) v2 (putF ("c_parts" : Str) v1 (putF ("c_book" : Str) v0 (([] : List (Str × V))))))))))))) = fsContainer v0 v1 v2 v3 v4 v5 v6 v7 v8 v9 v10 := by kernel_rfl
end K94
set_option maxHeartbeats 2000000
/-! books and parts: plain data, and how they lie in the heap -/
namespace K94
open PySem PySem.Spec PyProof.Rows L2

/-! ### plain data -/
structure Prt where
  life : Int
  wants : List (Bool × Str)
structure PM where
  depth : Nat
  names : List Str
  get : Str → Option Prt
  rk : Str → Nat
structure PM.Ok (M : PM) : Prop where
  d1 : 1 ≤ M.depth
  d3 : M.depth ≤ 3
  ne : M.names ≠ []
  dom : ∀ n, n ∈ M.names ↔ (M.get n).isSome = true
  life : ∀ n p, M.get n = some p → -1 ≤ p.life ∧ p.life ≤ M.depth
  rk5 : ∀ n, M.rk n ≤ 5
  few : ∀ n p, M.get n = some p → p.wants.length ≤ M.rk n
  nmOk : ∀ n, (M.get n).isSome = true → PyData.strOk n = true ∧ n ≠ "wide"
  down : ∀ n p, M.get n = some p → ∀ w ∈ p.wants, (M.get w.2).isSome = true ∧ M.rk w.2 < M.rk n
structure Bk where
  held : Str
  each : Str
  lifted : Str
  ends : Str
  works : Str
def Bk.Ok (b : Bk) : Prop := b.works = "same" ∨ b.works = "wait"
def wayS (h : Bool) : Str := if h then "held" else "each"

/-! ### the heap -/
/-- tuples stay -/
def Tups (H H' : Hp) : Prop := ∀ a xs, H a = some (.tup xs) → H' a = some (.tup xs)
theorem Tups.refl (H : Hp) : Tups H H := fun _ _ h => h
theorem Tups.trans {H H1 H2 : Hp} (a : Tups H H1) (b : Tups H1 H2) : Tups H H2 := fun c xs h => b c xs (a c xs h)
theorem Same.tups {H H' : Hp} (s : Same H H') : Tups H H' := fun a xs h => s a _ h
theorem Same.new {H : Hp} {a : Addr} {o : HO} (h : H a = none) : Same H (upd H a o) := fun b u e => by rw [upd_ne (ne_of_none e h)]; exact e
theorem Tups.wr {H : Hp} {a : Addr} {o u : HO} (h : H a = some u) (hm : Mut (some u)) : Tups H (upd H a o) := fun b xs e => by
  refine Eq.trans (upd_ne ?_) e
  intro q
  rw [q, h] at e
  cases e
  exact hm
def WantAt (H : Hp) (v : V) (w : Bool × Str) : Prop := ∃ a, v = .ref a ∧ H a = some (.tup [.str (wayS w.1), .str w.2])
def PartAt (K : PySem.W.Frag) (H : Hp) (v : V) (p : Prt) : Prop := ∃ a dx tw ws, v = .ref a ∧ H a = some (.ins (CPart K) dx (fsPart (.int p.life) (.ref tw))) ∧ H tw = some (.tup ws) ∧ Paired (WantAt H) ws p.wants
structure PartsAt (K : PySem.W.Frag) (H : Hp) (pa : Addr) (M : PM) (dx gd : Addr) (kvs : List (Key × V)) : Prop where
  self : H pa = some (.ins (CParts K) dx (fsParts (.int M.depth) (.ref gd)))
  dict : H gd = some (.dK kvs)
  keys : kvs.map (·.1) = M.names.map Sum.inr
  vals : ∀ n p, M.get n = some p → ∃ v, valV kvs (Sum.inr n) = some v ∧ PartAt K H v p
  nones : ∀ n, M.get n = none → valV kvs (Sum.inr n) = none
structure BookAt (K : PySem.W.Frag) (H : Hp) (b : Addr) (bk : Bk) (dx tb : Addr) : Prop where
  self : H b = some (.ins (CBook K) dx (fsBook (.str bk.held) (.str bk.each) (.str bk.lifted) (.str bk.ends) (.str bk.works) (.ref tb)))
  bars : H tb = some (.tup [])
theorem Paired.mono {α β : Type} {F G : α → β → Prop} (h : ∀ a b, F a b → G a b) : ∀ {l₁ : List α} {l₂ : List β}, Paired F l₁ l₂ → Paired G l₁ l₂
  | _, _, .nil => .nil
  | _, _, .cons r t => .cons (h _ _ r) (Paired.mono h t)
theorem WantAt.mono {H H' : Hp} (s : Tups H H') {v : V} {w : Bool × Str} (h : WantAt H v w) : WantAt H' v w := by
  obtain ⟨a, e, h⟩ := h
  exact ⟨a, e, s _ _ h⟩
theorem PartAt.mono {K : PySem.W.Frag} {H H' : Hp} (s : Same H H') {v : V} {p : Prt} (h : PartAt K H v p) : PartAt K H' v p := by
  obtain ⟨a, dx, tw, ws, e, h1, h2, h3⟩ := h
  exact ⟨a, dx, tw, ws, e, s _ _ h1, s _ _ h2, Paired.mono (fun _ _ h => h.mono (Same.tups s)) h3⟩
theorem PartsAt.mono {K : PySem.W.Frag} {H H' : Hp} (s : Same H H') {pa : Addr} {M : PM} {dx gd : Addr} {kvs : List (Key × V)} (h : PartsAt K H pa M dx gd kvs) : PartsAt K H' pa M dx gd kvs :=
  ⟨s _ _ h.self, s _ _ h.dict, h.keys, fun n p e => by obtain ⟨v, a, b⟩ := h.vals n p e; exact ⟨v, a, b.mono s⟩, h.nones⟩
theorem BookAt.mono {K : PySem.W.Frag} {H H' : Hp} (s : Same H H') {b : Addr} {bk : Bk} {dx tb : Addr} (h : BookAt K H b bk dx tb) : BookAt K H' b bk dx tb := ⟨s _ _ h.self, s _ _ h.bars⟩
theorem PartsAt.isSome {K : PySem.W.Frag} {H : Hp} {pa : Addr} {M : PM} {dx gd : Addr} {kvs : List (Key × V)} (h : PartsAt K H pa M dx gd kvs) (n : Str) : (valV kvs (Sum.inr n)).isSome = (M.get n).isSome := by
  cases e : M.get n with
  | none => rw [h.nones n e]; rfl
  | some p =>
    obtain ⟨v, a, _⟩ := h.vals n p e
    rw [a]
    rfl

/-! ### small readings -/
theorem CallR.imp {X : Cx} {f : Value} {r r' : List V → Hp → VK → Prop} (h : CallR X f r) (q : ∀ xs H Q, r' xs H Q → r xs H Q) : CallR X f r' := fun pins s σ H xs us Q I rx h' => h pins s σ H xs us Q I rx (q xs H Q h')
/-- isinstance(x, c) is b -/
def IsC (K : PySem.W.Frag) (H : Hp) (x c : V) (b : Bool) : Prop := ∃ t u, ClsV c u ∧ TyX K H x t ∧ PySem.W.kitOne K t u = some b
def rIsC (K : PySem.W.Frag) : List V → Hp → VK → Prop := fun xs H Q => ∃ x c b, xs = [x, c] ∧ IsC K H x c b ∧ Q (.bl b) H
theorem call_isC {X : Cx} : CallR X (.builtin "isinstance") (rIsC X.K) := CallR.imp call_isi fun xs H Q h => by
  obtain ⟨x, c, b, e, ⟨t, u, h1, h2, h3⟩, q⟩ := h
  exact ⟨x, c, t, u, b, e, h1, h2, h3, q⟩
section
variable {K : PySem.W.Frag} {H : Hp}
theorem isC_int {i : Int} : IsC K H (.int i) (.ty "int") true := ⟨_, _, .ty _, .base (.int i), kit_ty (by decide +kernel)⟩
theorem isC_int_bool {i : Int} : IsC K H (.int i) (.ty "bool") false := ⟨_, _, .ty _, .base (.int i), kit_ty (by decide +kernel)⟩
theorem isC_str {z : Str} : IsC K H (.str z) (.ty "str") true := ⟨_, _, .ty _, .base (.str z), kit_ty (by decide +kernel)⟩
theorem isC_tup {a : Addr} {xs : List V} (h : H a = some (.tup xs)) : IsC K H (.ref a) (.ty "tuple") true := ⟨_, _, .ty _, .base (.tup h), kit_ty (by decide +kernel)⟩
theorem isC_dict {a : Addr} {kvs : List (Key × V)} (h : H a = some (.dK kvs)) : IsC K H (.ref a) (.ty "dict") true := ⟨_, _, .ty _, .base (.dK h), kit_ty (by decide +kernel)⟩
theorem dget_s {a : Addr} {n : Str} {kvs : List (Key × V)} (h : H a = some (.dK kvs)) : DGet H a (.str n) (valV kvs (Sum.inr n)) := DGet.k (k := Sum.inr n) h
theorem dget_i {a : Addr} {i : Int} {kvs : List (Key × V)} (h : H a = some (.dK kvs)) : DGet H a (.int i) (valV kvs (Sum.inl i)) := DGet.k (k := Sum.inl i) h
theorem dget_s' {a : Addr} {n : Str} {kvs : List (Key × V)} {o : Option V} (h : H a = some (.dK kvs)) (e : valV kvs (Sum.inr n) = o) : DGet H a (.str n) o := e ▸ dget_s h
theorem dget_i' {a : Addr} {i : Int} {kvs : List (Key × V)} {o : Option V} (h : H a = some (.dK kvs)) (e : valV kvs (Sum.inl i) = o) : DGet H a (.int i) o := e ▸ dget_i h
end
end K94
set_option maxHeartbeats 4000000
/-! small defs of the parts -/
namespace K94
open PySem PySem.Spec PyProof.Rows L2
section
variable {P : Program} {w : World} {K : PySem.W.Frag} {mg : Str → Option Value} {base : Heap} {f : Addr} {fd : FuncData}

def spIsNumber : Sp := fun vs H Q _ => ∃ i, vs = [.int i] ∧ Q (.bl true) H
theorem ok_is_number (F : FnP K "is_number" "is_number" s_is_number f fd) (T : Txt K mg) : FnOk P w K mg base CX0 1 f fd P_is_number spIsNumber := by
  refine okD F sc_is_number (fun vs H Q E h => ?_) (fun cdv A outer s H vs Q E hr h => ?_)
  · obtain ⟨i, rfl, _⟩ := h; rfl
  · obtain ⟨i, rfl, q⟩ := h
    refine ⟨_, pss_one (ps_ret (pe_and (pe_callB call_isC (by rfl) T.f_isinstance (by decide +kernel) (pa_cons (pv 0) (pa_cons (pe_bltn (v := .ty "int") rfl T.f_int boot_int rfl) pa_nil))) (pe_one (pe_not (pe_callB call_isC (by rfl) T.f_isinstance (by decide +kernel) (pa_cons (pv 0) (pa_cons (pe_bltn (v := .ty "bool") rfl T.f_bool boot_bool rfl) pa_nil))))))), ?_⟩
    exact ⟨_, rfl, _, _, _, rfl, isC_int, _, rfl, iteT ⟨_, rfl, _, _, _, rfl, isC_int_bool, _, rfl, q⟩⟩

def spContains (K : PySem.W.Frag) : Sp := fun vs H Q _ => ∃ pa M dx gd kvs n, vs = [.ref pa, .str n] ∧ PartsAt K H pa M dx gd kvs ∧ Q (.bl (M.get n).isSome) H
theorem ok_Parts___contains__ (F : FnP K "__contains__" "Parts.__contains__" s_Parts___contains__ f fd) (T : Txt K mg) : FnOk P w K mg base CX0 1 f fd P_Parts___contains__ (spContains K) := by
  refine okD F sc_Parts___contains__ (fun vs H Q E h => ?_) (fun cdv A outer s H vs Q E hr h => ?_)
  · obtain ⟨_, _, _, _, _, _, rfl, _⟩ := h; rfl
  · obtain ⟨pa, M, dx, gd, kvs, n, rfl, p, q⟩ := h
    refine ⟨_, pss_one (ps_ret (pe_and (pe_callB call_isC (by rfl) T.f_isinstance (by decide +kernel) (pa_cons (pv 1) (pa_cons (pe_bltn (v := .ty "str") rfl T.f_str boot_str rfl) pa_nil))) (pe_one (pe_cmp (pc_din (hu_of hr) (pv 1) (pe_f (pv 0) T.c_Parts T.n_Parts_g_parts)))))), ?_⟩
    refine ⟨_, rfl, _, _, _, rfl, isC_str, _, rfl, iteT ⟨_, rfl, _, rfl, _, _, _, _, rfl, p.self, lk_Parts_g_parts, _, _, rfl, dget_s p.dict, ?_⟩⟩
    rw [p.isSome]
    exact q

def spNeedPart (K : PySem.W.Frag) : Sp := fun vs H Q _ => ∃ pa M dx gd kvs n, vs = [.ref pa, .str n] ∧ PartsAt K H pa M dx gd kvs ∧ (M.get n).isSome = true ∧ Q .non H
theorem ok_need_part (F : FnP K "need_part" "need_part" s_need_part f fd) (T : Txt K mg) (m_Parts___contains__ : GM P w K mg base 1 (CParts K) "__contains__" P_Parts___contains__ (spContains K)) : FnOk P w K mg base CX0 2 f fd P_need_part (spNeedPart K) := by
  refine okD F sc_need_part (fun vs H Q E h => ?_) (fun cdv A outer s H vs Q E hr h => ?_)
  · obtain ⟨_, _, _, _, _, _, rfl, _⟩ := h; rfl
  · obtain ⟨pa, M, dx, gd, kvs, n, rfl, p, e, q⟩ := h
    refine ⟨_, pss_one (ps_if (pt_cmpR (op_own_notin m_Parts___contains__ (hr.mono (by decide))) (pv 1) (pv 0) rfl)
      (pss_never)
      (pss_nil)), ?_⟩
    refine ⟨_, rfl, _, rfl, _, _, _, rfl, p.self, pa, M, dx, gd, kvs, n, rfl, p, _, rfl, _, rfl, ?_⟩
    rw [e]
    exact iteF q

def spGetPart (K : PySem.W.Frag) : Sp := fun vs H Q _ => ∃ pa M dx gd kvs n pr, vs = [.ref pa, .str n] ∧ PartsAt K H pa M dx gd kvs ∧ M.get n = some pr ∧ ∀ v, PartAt K H v pr → Q v H
theorem ok_Parts___getitem__ (F : FnP K "__getitem__" "Parts.__getitem__" s_Parts___getitem__ f fd) (T : Txt K mg) (g_need_part : GF P w K mg base 2 "need_part" P_need_part (spNeedPart K)) : FnOk P w K mg base CX0 3 f fd P_Parts___getitem__ (spGetPart K) := by
  refine okD F sc_Parts___getitem__ (fun vs H Q E h => ?_) (fun cdv A outer s H vs Q E hr h => ?_)
  · obtain ⟨_, _, _, _, _, _, _, rfl, _⟩ := h; rfl
  · obtain ⟨pa, M, dx, gd, kvs, n, pr, rfl, p, e, q⟩ := h
    obtain ⟨v, ev, hv⟩ := p.vals n pr e
    refine ⟨_, pss_cons (ps_expr (pe_g g_need_part (hr.mono (by decide)) (pa_cons (pv 0) (pa_cons (pv 1) pa_nil))))
    (pss_one (ps_ret (pe_dget (hu_of hr) (pe_f (pv 0) T.c_Parts T.n_Parts_g_parts) (pv 1) (fun _ _ => rfl)))), ?_⟩
    refine ⟨_, rfl, _, rfl, pa, M, dx, gd, kvs, n, rfl, p, by rw [e]; rfl, _, rfl, _, _, _, _, rfl, p.self, lk_Parts_g_parts, _, rfl, _, v, rfl, dget_s' p.dict ev, q v hv⟩
end
end K94
set_option maxHeartbeats 4000000
/-! a container: plain data, and how it lies in the heap -/
namespace K94
open PySem PySem.Spec PyProof.Rows L2

structure Thg where
  name : Str
  home : Nat
  got : List (Option Nat)
  ended : Bool
structure Scp where
  level : Nat
  under : Option Nat
  alive : Bool
/-- the container without the indices of its deeds and without its works -/
structure Cor where
  scopes : List Scp
  things : List Thg
  kept : List ((Str × Nat) × Nat)
  loose : List Nat
  left : List Nat
  faults : List (Str × Nat × List Str)
/-- its works: how many were put off, those that wait -/
structure Wks where
  po : Nat
  ws : List (Nat × Nat × Str × Nat)
/-- what does not change: the book, the parts -/
structure Gam where
  b : Addr
  pa : Addr
  bk : Bk
  M : PM
structure Stat (K : PySem.W.Frag) (H : Hp) (g : Gam) : Prop where
  book : ∃ dx tb, BookAt K H g.b g.bk dx tb
  parts : ∃ dx gd kvs, PartsAt K H g.pa g.M dx gd kvs
  bok : g.bk.Ok
  mok : g.M.Ok
theorem Stat.mono {K : PySem.W.Frag} {H H' : Hp} {g : Gam} (s : Same H H') (h : Stat K H g) : Stat K H' g := by
  obtain ⟨⟨dx, tb, h1⟩, ⟨dx', gd, kvs, h2⟩, h3, h4⟩ := h
  exact ⟨⟨dx, tb, h1.mono s⟩, ⟨dx', gd, kvs, h2.mono s⟩, h3, h4⟩

inductive Rl where
  | self | things | scopes | kept | works | loose | left | faults
  | thing (i : Nat) | got (i : Nat) | scope (i : Nat)
  deriving DecidableEq
/-- where its objects stand -/
structure Ad where
  a : Rl → Addr
  d : Rl → Addr
  dn : Int
  fv : List V
  wv : List Addr
def oV : Option Nat → V
  | none => .non
  | some n => .int n
def selfFs (g : Gam) (A : Ad) (po : Nat) : List (Str × V) := fsContainer (.ref g.b) (.ref g.pa) (.ref (A.a .scopes)) (.ref (A.a .things)) (.ref (A.a .kept)) (.ref (A.a .works)) (.int po) (.ref (A.a .loose)) (.ref (A.a .left)) (.ref (A.a .faults)) (.int A.dn)
def thingFs (A : Ad) (i : Nat) (t : Thg) : List (Str × V) := fsThing (.str t.name) (.int t.home) (.ref (A.a (.got i))) (.bl t.ended)
def scopeFs (s : Scp) : List (Str × V) := fsScope (.int s.level) (oV s.under) (.bl s.alive)
def thRefs (A : Ad) (n : Nat) : List V := (List.range n).map fun (i : Nat) => V.ref (A.a (.thing i))
def scDict (A : Ad) (n : Nat) : List (Key × V) := (List.range n).map fun (i : Nat) => (Sum.inl (i : Int), V.ref (A.a (.scope i)))
def kpDict (l : List ((Str × Nat) × Nat)) : List (List Key × V) := l.map fun e => ([Sum.inr e.1.1, Sum.inl (e.1.2 : Int)], .int e.2)
def wkDict : List (Nat × Nat × Str × Nat) → List Addr → List (Key × V)
  | x :: r, a :: t => (Sum.inl (x.1 : Int), .ref a) :: wkDict r t
  | _, _ => []
/-- what stands at a place -/
def cont (K : PySem.W.Frag) (g : Gam) (A : Ad) (S : Cor) (W : Wks) : Rl → Option HO
  | .self => some (.ins (CContainer K) (A.d .self) (selfFs g A W.po))
  | .things => some (.lst (thRefs A S.things.length))
  | .scopes => some (.dK (scDict A S.scopes.length))
  | .kept => some (.dT (kpDict S.kept))
  | .works => some (.dK (wkDict W.ws A.wv))
  | .loose => some (.lst (S.loose.map fun n => V.int (n : Nat)))
  | .left => some (.lst (S.left.map fun n => V.int (n : Nat)))
  | .faults => some (.lst A.fv)
  | .thing i => S.things[i]?.map fun t => .ins (CThing K) (A.d (.thing i)) (thingFs A i t)
  | .got i => S.things[i]?.map fun t => .lst (t.got.map oV)
  | .scope i => S.scopes[i]?.map fun s => .ins (CScope K) (A.d (.scope i)) (scopeFs s)
def PathAt (H : Hp) (a : Addr) (p : List Str) : Prop := H a = some (.tup (p.map V.str))
def FaultAt (H : Hp) (v : V) (f : Str × Nat × List Str) : Prop := ∃ a i pa, v = .ref a ∧ H a = some (.tup [.int i, .str f.1, .int (f.2.1 : Nat), .ref pa]) ∧ PathAt H pa f.2.2
def WorkAt (H : Hp) (a : Addr) (x : Nat × Nat × Str × Nat) : Prop := H a = some (.tup [.int (x.2.1 : Nat), .str x.2.2.1, .int (x.2.2.2 : Nat)])
theorem FaultAt.mono {H H' : Hp} (s : Tups H H') {v : V} {f : Str × Nat × List Str} (h : FaultAt H v f) : FaultAt H' v f := by
  obtain ⟨a, i, pa, e, h1, h2⟩ := h
  exact ⟨a, i, pa, e, s _ _ h1, s _ _ h2⟩
/-- the container at A, over what stood ahead of it -/
structure Ctr (K : PySem.W.Frag) (g : Gam) (H0 H : Hp) (A : Ad) (S : Cor) (W : Wks) : Prop where
  st : Stat K H0 g
  same : Same H0 H
  at_ : ∀ r o, cont K g A S W r = some o → H (A.a r) = some o
  inj : ∀ r r', (cont K g A S W r).isSome = true → (cont K g A S W r').isSome = true → A.a r = A.a r' → r = r'
  new : ∀ r, (cont K g A S W r).isSome = true → H0 (A.a r) = none
  fts : Paired (FaultAt H) A.fv S.faults
  wks : Paired (WorkAt H) A.wv W.ws

section
variable {K : PySem.W.Frag} {g : Gam} {H0 H H' : Hp} {A : Ad} {S : Cor} {W : Wks}
theorem Ctr.self (c : Ctr K g H0 H A S W) : H (A.a .self) = some (.ins (CContainer K) (A.d .self) (selfFs g A W.po)) := c.at_ .self _ rfl
theorem Ctr.things (c : Ctr K g H0 H A S W) : H (A.a .things) = some (.lst (thRefs A S.things.length)) := c.at_ .things _ rfl
theorem Ctr.scopes (c : Ctr K g H0 H A S W) : H (A.a .scopes) = some (.dK (scDict A S.scopes.length)) := c.at_ .scopes _ rfl
theorem Ctr.kept (c : Ctr K g H0 H A S W) : H (A.a .kept) = some (.dT (kpDict S.kept)) := c.at_ .kept _ rfl
theorem Ctr.works (c : Ctr K g H0 H A S W) : H (A.a .works) = some (.dK (wkDict W.ws A.wv)) := c.at_ .works _ rfl
theorem Ctr.loose (c : Ctr K g H0 H A S W) : H (A.a .loose) = some (.lst (S.loose.map fun n => V.int (n : Nat))) := c.at_ .loose _ rfl
theorem Ctr.left (c : Ctr K g H0 H A S W) : H (A.a .left) = some (.lst (S.left.map fun n => V.int (n : Nat))) := c.at_ .left _ rfl
theorem Ctr.faults (c : Ctr K g H0 H A S W) : H (A.a .faults) = some (.lst A.fv) := c.at_ .faults _ rfl
theorem Ctr.thing (c : Ctr K g H0 H A S W) {i : Nat} {t : Thg} (e : S.things[i]? = some t) : H (A.a (.thing i)) = some (.ins (CThing K) (A.d (.thing i)) (thingFs A i t)) := c.at_ (.thing i) _ (by show S.things[i]?.map _ = _; rw [e]; rfl)
theorem Ctr.got (c : Ctr K g H0 H A S W) {i : Nat} {t : Thg} (e : S.things[i]? = some t) : H (A.a (.got i)) = some (.lst (t.got.map oV)) := c.at_ (.got i) _ (by show S.things[i]?.map _ = _; rw [e]; rfl)
theorem Ctr.scope (c : Ctr K g H0 H A S W) {i : Nat} {s : Scp} (e : S.scopes[i]? = some s) : H (A.a (.scope i)) = some (.ins (CScope K) (A.d (.scope i)) (scopeFs s)) := c.at_ (.scope i) _ (by show S.scopes[i]?.map _ = _; rw [e]; rfl)
theorem Ctr.book (c : Ctr K g H0 H A S W) : ∃ dx tb, BookAt K H g.b g.bk dx tb := (c.st.mono c.same).book
theorem Ctr.parts (c : Ctr K g H0 H A S W) : ∃ dx gd kvs, PartsAt K H g.pa g.M dx gd kvs := (c.st.mono c.same).parts
/-- the heap grows -/
theorem Ctr.grow (c : Ctr K g H0 H A S W) (s : Same H H') : Ctr K g H0 H' A S W :=
  ⟨c.st, c.same.trans s, fun r o e => s _ _ (c.at_ r o e), c.inj, c.new, Paired.mono (fun _ _ h => h.mono (Same.tups s)) c.fts, Paired.mono (fun _ _ h => s _ _ h) c.wks⟩
/-- an object of others is laid new, or written: the base goes along -/
theorem Ctr.other (c : Ctr K g H0 H A S W) {l : Addr} {o : HO} (h : H l = none) : Ctr K g (upd H0 l o) (upd H l o) A S W := by
  have h0 : H0 l = none := c.same.free h
  have c' := c.grow (Same.new (o := o) h)
  refine ⟨c.st.mono (Same.new h0), fun b u e => ?_, c'.at_, c.inj, fun r hr => ?_, c'.fts, c'.wks⟩
  · by_cases q : b = l
    · rw [q, upd_same] at e ⊢; exact e
    · rw [upd_ne q] at e ⊢; exact c.same _ _ e
  · obtain ⟨u, e⟩ := Option.isSome_iff_exists.mp hr
    rw [upd_ne (ne_of_none (c.at_ r u e) h)]
    exact c.new r hr
/-- an object of others is written -/
theorem Ctr.wr (c : Ctr K g H0 H A S W) {l : Addr} {o o2 : HO} (hl : H0 l = some o) (hm : Mut (some o)) (st : Stat K (upd H0 l o2) g) : Ctr K g (upd H0 l o2) (upd H l o2) A S W := by
  have hH : H l = some o := c.same _ _ hl
  have ne : ∀ r, (cont K g A S W r).isSome = true → A.a r ≠ l := fun r hr q => by
    have e := c.new r hr
    rw [q, hl] at e
    cases e
  have tu : Tups H (upd H l o2) := Tups.wr hH hm
  refine ⟨st, fun b u e => ?_, fun r u e => ?_, c.inj, fun r hr => ?_, Paired.mono (fun _ _ h => h.mono tu) c.fts, Paired.mono (fun _ _ h => tu _ _ h) c.wks⟩
  · by_cases q : b = l
    · rw [q, upd_same] at e ⊢; exact e
    · rw [upd_ne q] at e ⊢; exact c.same _ _ e
  · rw [upd_ne (ne r (by rw [e]; rfl))]
    exact c.at_ r u e
  · rw [upd_ne (ne r hr)]
    exact c.new r hr
/-- one object of the container is written -/
theorem Ctr.put (c : Ctr K g H0 H A S W) (r : Rl) {o o2 : HO} {A' : Ad} {S' : Cor} {W' : Wks} (ho : cont K g A S W r = some o) (hm : Mut (some o)) (ha : A'.a = A.a) (h1 : cont K g A' S' W' r = some o2) (h2 : ∀ r', r' ≠ r → cont K g A' S' W' r' = cont K g A S W r')
    (hf : Paired (FaultAt (upd H (A.a r) o2)) A'.fv S'.faults) (hw : Paired (WorkAt (upd H (A.a r) o2)) A'.wv W'.ws) : Ctr K g H0 (upd H (A.a r) o2) A' S' W' := by
  have hr : (cont K g A S W r).isSome = true := by rw [ho]; rfl
  have is : ∀ r', (cont K g A' S' W' r').isSome = true → (cont K g A S W r').isSome = true := fun r' h => by
    by_cases q : r' = r
    · rw [q]; exact hr
    · rw [← h2 r' q]; exact h
  refine ⟨c.st, fun b u e => ?_, fun r' u e => ?_, fun r1 r2 e1 e2 e => ?_, fun r' e => ?_, hf, hw⟩
  · rw [upd_ne fun q => ?_]
    · exact c.same _ _ e
    · have z := c.new r hr
      rw [← q, e] at z
      cases z
  · rw [ha]
    by_cases q : r' = r
    · subst q
      rw [h1] at e
      cases e
      exact upd_same
    · have hs := is r' (by rw [e]; rfl)
      rw [upd_ne fun z => q (c.inj r' r hs hr z)]
      exact c.at_ r' u (by rw [← h2 r' q]; exact e)
  · rw [ha] at e
    exact c.inj r1 r2 (is r1 e1) (is r2 e2) e
  · rw [ha]
    exact c.new r' (is r' e)
/-- tuples stay when one object of the container is written -/
theorem Ctr.tups (c : Ctr K g H0 H A S W) (r : Rl) {o o2 : HO} (ho : cont K g A S W r = some o) (hm : Mut (some o)) : Tups H (upd H (A.a r) o2) := Tups.wr (c.at_ r o ho) hm
theorem Ctr.fts' (c : Ctr K g H0 H A S W) (t : Tups H H') : Paired (FaultAt H') A.fv S.faults := Paired.mono (fun _ _ h => h.mono t) c.fts
theorem Ctr.wks' (c : Ctr K g H0 H A S W) (t : Tups H H') : Paired (WorkAt H') A.wv W.ws := Paired.mono (fun _ _ h => t _ _ h) c.wks
/-- back to a smaller base -/
theorem Ctr.base {H1 : Hp} (c : Ctr K g H1 H A S W) (s : Same H0 H1) (st : Stat K H0 g) : Ctr K g H0 H A S W :=
  ⟨st, s.trans c.same, c.at_, c.inj, fun r hr => s.free (c.new r hr), c.fts, c.wks⟩
end
end K94
set_option maxHeartbeats 4000000
/-! a container's changes, one object at a time -/
namespace K94
open PySem PySem.Spec PyProof.Rows L2

def Cor.setT (S : Cor) (i : Nat) (t : Thg) : Cor := { S with things := S.things.set i t }
def Cor.fault (S : Cor) (w : Str) (n : Nat) (p : List Str) : Cor := { S with faults := S.faults ++ [(w, n, p)] }
def Cor.addT (S : Cor) (t : Thg) : Cor := { S with things := S.things ++ [t] }
/-- a thing comes to be kept (in the place of another one, if there is one) -/
def kput (l : List ((Str × Nat) × Nat)) (n : Str) (pl k : Nat) : List ((Str × Nat) × Nat) :=
  if (l.any fun e => decide (e.1 = (n, pl))) = true then l.map (fun e => if e.1 = (n, pl) then (e.1, k) else e) else l ++ [((n, pl), k)]
def Cor.addK (S : Cor) (n : Str) (pl : Nat) (k : Nat) : Cor := { S with kept := kput S.kept n pl k }
def Cor.addL (S : Cor) (n : Nat) : Cor := { S with loose := S.loose ++ [n] }
def Cor.addLeft (S : Cor) (n : Nat) : Cor := { S with left := S.left ++ [n] }
def Cor.setS (S : Cor) (i : Nat) (s : Scp) : Cor := { S with scopes := S.scopes.set i s }
def Cor.addS (S : Cor) (s : Scp) : Cor := { S with scopes := S.scopes ++ [s] }
def Ad.addF (A : Ad) (v : V) : Ad := { A with fv := A.fv ++ [v] }
def Ad.dn1 (A : Ad) (i : Int) : Ad := { A with dn := i }

section
variable {K : PySem.W.Frag} {g : Gam} {H0 H H' : Hp} {A : Ad} {S : Cor} {W : Wks}
theorem Paired.snoc {α β : Type} {F : α → β → Prop} {x : α} {y : β} (h : F x y) : ∀ {l₁ : List α} {l₂ : List β}, Paired F l₁ l₂ → Paired F (l₁ ++ [x]) (l₂ ++ [y])
  | _, _, .nil => .cons h .nil
  | _, _, .cons r t => .cons r (Paired.snoc h t)
theorem set_get {α : Type} {l : List α} {i j : Nat} {x : α} (h : j ≠ i) : (l.set i x)[j]? = l[j]? := List.getElem?_set_ne (Ne.symm h)
theorem set_here {α : Type} {l : List α} {i : Nat} {x y : α} (h : l[i]? = some y) : (l.set i x)[i]? = some x := List.getElem?_set_self (List.getElem?_eq_some_iff.mp h).1

/-- a thing ends -/
theorem Ctr.wEnd (c : Ctr K g H0 H A S W) {i : Nat} {t : Thg} (e : S.things[i]? = some t) : Ctr K g H0 (upd H (A.a (.thing i)) (.ins (CThing K) (A.d (.thing i)) (thingFs A i { t with ended := true }))) A (S.setT i { t with ended := true }) W := by
  have e0 : cont K g A S W (.thing i) = some (.ins (CThing K) (A.d (.thing i)) (thingFs A i t)) := by show S.things[i]?.map _ = _; rw [e]; rfl
  refine c.put (.thing i) e0 True.intro rfl (by show (S.things.set i _)[i]?.map _ = _; rw [set_here e]; rfl) (fun r h => ?_) (c.fts' (c.tups _ e0 True.intro)) (c.wks' (c.tups _ e0 True.intro))
  cases r with
  | things => show some (HO.lst (thRefs A (S.things.set i _).length)) = _; rw [List.length_set]; rfl
  | thing j => show (S.things.set i _)[j]?.map _ = S.things[j]?.map _; rw [set_get fun q => h (by rw [q])]
  | got j =>
    show (S.things.set i _)[j]?.map _ = S.things[j]?.map _
    by_cases q : j = i
    · rw [q, set_here e, e]; rfl
    · rw [set_get q]
  | _ => rfl
/-- a thing holds one more -/
theorem Ctr.wGot (c : Ctr K g H0 H A S W) {i : Nat} {t : Thg} {o : Option Nat} (e : S.things[i]? = some t) : Ctr K g H0 (upd H (A.a (.got i)) (.lst (t.got.map oV ++ [oV o]))) A (S.setT i { t with got := t.got ++ [o] }) W := by
  have e0 : cont K g A S W (.got i) = some (.lst (t.got.map oV)) := by show S.things[i]?.map _ = _; rw [e]; rfl
  refine c.put (.got i) e0 True.intro rfl (by show (S.things.set i _)[i]?.map _ = _; rw [set_here e]; show some (HO.lst ((t.got ++ [o]).map oV)) = _; rw [List.map_append]; rfl) (fun r h => ?_) (c.fts' (c.tups _ e0 True.intro)) (c.wks' (c.tups _ e0 True.intro))
  cases r with
  | things => show some (HO.lst (thRefs A (S.things.set i _).length)) = _; rw [List.length_set]; rfl
  | got j => show (S.things.set i _)[j]?.map _ = S.things[j]?.map _; rw [set_get fun q => h (by rw [q])]
  | thing j =>
    show (S.things.set i _)[j]?.map _ = S.things[j]?.map _
    by_cases q : j = i
    · rw [q, set_here e, e]; rfl
    · rw [set_get q]
  | _ => rfl
/-- a fault is noted -/
theorem Ctr.wFault (c : Ctr K g H0 H A S W) {v : V} {w : Str} {n : Nat} {p : List Str} (hf : FaultAt H v (w, n, p)) : Ctr K g H0 (upd H (A.a .faults) (.lst (A.fv ++ [v]))) (A.addF v) (S.fault w n p) W := by
  have e0 : cont K g A S W .faults = some (.lst A.fv) := rfl
  have tu := c.tups (o2 := .lst (A.fv ++ [v])) _ e0 True.intro
  refine c.put .faults (A' := A.addF v) e0 True.intro rfl rfl (fun r h => ?_) (Paired.snoc (hf.mono tu) (c.fts' tu)) (c.wks' tu)
  cases r <;> first | rfl | exact absurd rfl h
theorem Ctr.wLoose (c : Ctr K g H0 H A S W) {n : Nat} : Ctr K g H0 (upd H (A.a .loose) (.lst ((S.loose.map fun n => V.int (n : Nat)) ++ [.int n]))) A (S.addL n) W := by
  have e0 : cont K g A S W .loose = some (.lst (S.loose.map fun n => V.int (n : Nat))) := rfl
  refine c.put .loose e0 True.intro rfl (by show some (HO.lst ((S.loose ++ [n]).map _)) = _; rw [List.map_append]; rfl) (fun r h => ?_) (c.fts' (c.tups _ e0 True.intro)) (c.wks' (c.tups _ e0 True.intro))
  cases r <;> first | rfl | exact absurd rfl h
theorem Ctr.wLeft (c : Ctr K g H0 H A S W) {n : Nat} : Ctr K g H0 (upd H (A.a .left) (.lst ((S.left.map fun n => V.int (n : Nat)) ++ [.int n]))) A (S.addLeft n) W := by
  have e0 : cont K g A S W .left = some (.lst (S.left.map fun n => V.int (n : Nat))) := rfl
  refine c.put .left e0 True.intro rfl (by show some (HO.lst ((S.left ++ [n]).map _)) = _; rw [List.map_append]; rfl) (fun r h => ?_) (c.fts' (c.tups _ e0 True.intro)) (c.wks' (c.tups _ e0 True.intro))
  cases r <;> first | rfl | exact absurd rfl h
theorem kkey {e : (Str × Nat) × Nat} {n : Str} {pl : Nat} : (([Sum.inr e.1.1, Sum.inl (e.1.2 : Int)] : List Key) = [Sum.inr n, Sum.inl (pl : Int)]) ↔ e.1 = (n, pl) := by
  obtain ⟨⟨a, b⟩, c⟩ := e
  constructor
  · intro h
    simp only [List.cons.injEq, Sum.inr.injEq, Sum.inl.injEq, and_true] at h
    obtain ⟨h1, h2⟩ := h
    show (a, b) = (n, pl)
    rw [h1, show b = pl by omega]
  · intro h
    have h : (a, b) = (n, pl) := h
    cases h
    rfl
theorem kpDict_put (l : List ((Str × Nat) × Nat)) (n : Str) (pl k : Nat) : kpDict (kput l n pl k) = putK (kpDict l) [Sum.inr n, Sum.inl (pl : Int)] (.int k) := by
  have ea : ((kpDict l).any fun kv => decide (kv.1 = [Sum.inr n, Sum.inl (pl : Int)])) = l.any fun e => decide (e.1 = (n, pl)) := by
    unfold kpDict
    rw [List.any_map]
    congr 1
    funext e
    exact decide_eq_decide.mpr kkey
  unfold kput putK
  rw [ea]
  by_cases h : (l.any fun e => decide (e.1 = (n, pl))) = true
  · rw [if_pos h, if_pos h]
    unfold kpDict
    rw [List.map_map, List.map_map]
    refine List.map_congr_left fun e _ => ?_
    show (_ : List Key × V) = if _ then _ else _
    by_cases q : e.1 = (n, pl)
    · rw [if_pos (kkey.mpr q)]
      show ((fun e : (Str × Nat) × Nat => ([Sum.inr e.1.1, Sum.inl (e.1.2 : Int)], V.int e.2)) (if e.1 = (n, pl) then (e.1, k) else e) : List Key × V) = _
      rw [if_pos q]
    · rw [if_neg fun z => q (kkey.mp z)]
      show ((fun e : (Str × Nat) × Nat => ([Sum.inr e.1.1, Sum.inl (e.1.2 : Int)], V.int e.2)) (if e.1 = (n, pl) then (e.1, k) else e) : List Key × V) = _
      rw [if_neg q]
  · rw [if_neg h, if_neg h]
    unfold kpDict
    rw [List.map_append]
    rfl
/-- a thing is kept -/
theorem Ctr.wKept (c : Ctr K g H0 H A S W) {n : Str} {pl k : Nat} : Ctr K g H0 (upd H (A.a .kept) (.dT (putK (kpDict S.kept) [Sum.inr n, Sum.inl (pl : Int)] (.int k)))) A (S.addK n pl k) W := by
  have e0 : cont K g A S W .kept = some (.dT (kpDict S.kept)) := rfl
  refine c.put .kept e0 True.intro rfl (by show some (HO.dT (kpDict (kput S.kept n pl k))) = _; rw [kpDict_put]) (fun r h => ?_) (c.fts' (c.tups _ e0 True.intro)) (c.wks' (c.tups _ e0 True.intro))
  cases r <;> first | rfl | exact absurd rfl h
/-- a scope is closed -/
theorem Ctr.wShut (c : Ctr K g H0 H A S W) {i : Nat} {s : Scp} (e : S.scopes[i]? = some s) : Ctr K g H0 (upd H (A.a (.scope i)) (.ins (CScope K) (A.d (.scope i)) (scopeFs { s with alive := false }))) A (S.setS i { s with alive := false }) W := by
  have e0 : cont K g A S W (.scope i) = some (.ins (CScope K) (A.d (.scope i)) (scopeFs s)) := by show S.scopes[i]?.map _ = _; rw [e]; rfl
  refine c.put (.scope i) e0 True.intro rfl (by show (S.scopes.set i _)[i]?.map _ = _; rw [set_here e]; rfl) (fun r h => ?_) (c.fts' (c.tups _ e0 True.intro)) (c.wks' (c.tups _ e0 True.intro))
  cases r with
  | scopes => show some (HO.dK (scDict A (S.scopes.set i _).length)) = _; rw [List.length_set]; rfl
  | scope j => show (S.scopes.set i _)[j]?.map _ = S.scopes[j]?.map _; rw [set_get fun q => h (by rw [q])]
  | _ => rfl
/-- the deeds are counted -/
theorem Ctr.wDeeds (c : Ctr K g H0 H A S W) {i : Int} : Ctr K g H0 (upd H (A.a .self) (.ins (CContainer K) (A.d .self) (selfFs g (A.dn1 i) W.po))) (A.dn1 i) S W := by
  have e0 : cont K g A S W .self = some (.ins (CContainer K) (A.d .self) (selfFs g A W.po)) := rfl
  refine c.put .self (A' := A.dn1 i) e0 True.intro rfl rfl (fun r h => ?_) (c.fts' (c.tups _ e0 True.intro)) (c.wks' (c.tups _ e0 True.intro))
  cases r <;> first | rfl | exact absurd rfl h
/-- one more work was put off -/
theorem Ctr.wPo (c : Ctr K g H0 H A S W) {n : Nat} : Ctr K g H0 (upd H (A.a .self) (.ins (CContainer K) (A.d .self) (selfFs g A n))) A S { W with po := n } := by
  have e0 : cont K g A S W .self = some (.ins (CContainer K) (A.d .self) (selfFs g A W.po)) := rfl
  refine c.put .self e0 True.intro rfl rfl (fun r h => ?_) (c.fts' (c.tups _ e0 True.intro)) (c.wks' (c.tups _ e0 True.intro))
  cases r <;> first | rfl | exact absurd rfl h
/-- a work waits, the only one -/
theorem Ctr.wWork (c : Ctr K g H0 H A S W) {a : Addr} {x : Nat × Nat × Str × Nat} (hx : WorkAt H a x) : Ctr K g H0 (upd H (A.a .works) (.dK [(Sum.inl (x.1 : Int), .ref a)])) { A with wv := [a] } S { W with ws := [x] } := by
  have e0 : cont K g A S W .works = some (.dK (wkDict W.ws A.wv)) := rfl
  have tu := c.tups (o2 := .dK [(Sum.inl (x.1 : Int), .ref a)]) _ e0 True.intro
  refine c.put .works (A' := { A with wv := [a] }) (W' := { W with ws := [x] }) e0 True.intro rfl rfl (fun r h => ?_) (c.fts' tu) (.cons (tu _ _ hx) .nil)
  cases r <;> first | rfl | exact absurd rfl h

/-! ### new objects -/
def setA (f : Rl → Addr) (r : Rl) (x : Addr) : Rl → Addr := fun q => if q = r then x else f q
theorem setA_same {f : Rl → Addr} {r : Rl} {x : Addr} : setA f r x r = x := if_pos rfl
theorem setA_ne {f : Rl → Addr} {r q : Rl} {x : Addr} (h : q ≠ r) : setA f r x q = f q := if_neg h
/-- the list of loose things, or the dict of works, is made anew -/
theorem Ctr.wNewLoose (c : Ctr K g H0 H A S W) {l : Addr} (hl : H l = some (.lst [])) (h0 : H0 l = none) (hne : ∀ r, (cont K g A S W r).isSome = true → A.a r ≠ l) :
    Ctr K g H0 (upd H (A.a .self) (.ins (CContainer K) (A.d .self) (selfFs g { A with a := setA A.a .loose l } W.po))) { A with a := setA A.a .loose l } { S with loose := [] } W := by
  have e0 : cont K g A S W .self = some (.ins (CContainer K) (A.d .self) (selfFs g A W.po)) := rfl
  have tu := c.tups (o2 := .ins (CContainer K) (A.d .self) (selfFs g { A with a := setA A.a .loose l } W.po)) _ e0 True.intro
  have is : ∀ r, (cont K g { A with a := setA A.a .loose l } { S with loose := [] } W r).isSome = true → (cont K g A S W r).isSome = true := fun r h => by cases r <;> first | rfl | (simpa [cont] using h)
  have nl : l ≠ A.a .self := Ne.symm (hne .self rfl)
  refine ⟨c.st, fun b u e => ?_, fun r u e => ?_, fun r1 r2 e1 e2 e => ?_, fun r e => ?_, c.fts' tu, c.wks' tu⟩
  · rw [upd_ne fun q => ?_]
    · exact c.same _ _ e
    · have z := c.new .self rfl
      rw [← q, e] at z
      cases z
  · by_cases q : r = .loose
    · subst q
      show upd H _ _ (setA A.a .loose l .loose) = _
      rw [setA_same, upd_ne nl, hl]
      exact e
    · show upd H _ _ (setA A.a .loose l r) = _
      rw [setA_ne q]
      by_cases q2 : r = .self
      · subst q2; rw [upd_same]; exact e
      · have hr := is r (by rw [e]; rfl)
        rw [upd_ne fun z => q2 (c.inj r .self hr rfl z)]
        refine c.at_ r u ?_
        rw [← e]
        cases r <;> first | rfl | exact absurd rfl q | exact absurd rfl q2
  · have e : setA A.a .loose l r1 = setA A.a .loose l r2 := e
    by_cases q1 : r1 = .loose
    · by_cases q2 : r2 = .loose
      · rw [q1, q2]
      · rw [q1, setA_same, setA_ne q2] at e
        exact absurd e.symm (hne r2 (is r2 e2))
    · by_cases q2 : r2 = .loose
      · rw [q2, setA_same, setA_ne q1] at e
        exact absurd e (hne r1 (is r1 e1))
      · rw [setA_ne q1, setA_ne q2] at e
        exact c.inj r1 r2 (is r1 e1) (is r2 e2) e
  · show H0 (setA A.a .loose l r) = none
    by_cases q : r = .loose
    · rw [q, setA_same]; exact h0
    · rw [setA_ne q]; exact c.new r (is r e)
theorem Ctr.wNewWorks (c : Ctr K g H0 H A S W) {l : Addr} (hl : H l = some (.dK [])) (h0 : H0 l = none) (hne : ∀ r, (cont K g A S W r).isSome = true → A.a r ≠ l) :
    Ctr K g H0 (upd H (A.a .self) (.ins (CContainer K) (A.d .self) (selfFs g { A with a := setA A.a .works l, wv := [] } W.po))) { A with a := setA A.a .works l, wv := [] } S { W with ws := [] } := by
  have e0 : cont K g A S W .self = some (.ins (CContainer K) (A.d .self) (selfFs g A W.po)) := rfl
  have tu := c.tups (o2 := .ins (CContainer K) (A.d .self) (selfFs g { A with a := setA A.a .works l, wv := [] } W.po)) _ e0 True.intro
  have is : ∀ r, (cont K g { A with a := setA A.a .works l, wv := [] } S { W with ws := [] } r).isSome = true → (cont K g A S W r).isSome = true := fun r h => by cases r <;> first | rfl | (simpa [cont] using h)
  have nl : l ≠ A.a .self := Ne.symm (hne .self rfl)
  refine ⟨c.st, fun b u e => ?_, fun r u e => ?_, fun r1 r2 e1 e2 e => ?_, fun r e => ?_, c.fts' tu, .nil⟩
  · rw [upd_ne fun q => ?_]
    · exact c.same _ _ e
    · have z := c.new .self rfl
      rw [← q, e] at z
      cases z
  · by_cases q : r = .works
    · subst q
      show upd H _ _ (setA A.a .works l .works) = _
      rw [setA_same, upd_ne nl, hl]
      exact e
    · show upd H _ _ (setA A.a .works l r) = _
      rw [setA_ne q]
      by_cases q2 : r = .self
      · subst q2; rw [upd_same]; exact e
      · have hr := is r (by rw [e]; rfl)
        rw [upd_ne fun z => q2 (c.inj r .self hr rfl z)]
        refine c.at_ r u ?_
        rw [← e]
        cases r <;> first | rfl | exact absurd rfl q | exact absurd rfl q2
  · have e : setA A.a .works l r1 = setA A.a .works l r2 := e
    by_cases q1 : r1 = .works
    · by_cases q2 : r2 = .works
      · rw [q1, q2]
      · rw [q1, setA_same, setA_ne q2] at e
        exact absurd e.symm (hne r2 (is r2 e2))
    · by_cases q2 : r2 = .works
      · rw [q2, setA_same, setA_ne q1] at e
        exact absurd e (hne r1 (is r1 e1))
      · rw [setA_ne q1, setA_ne q2] at e
        exact c.inj r1 r2 (is r1 e1) (is r2 e2) e
  · show H0 (setA A.a .works l r) = none
    by_cases q : r = .works
    · rw [q, setA_same]; exact h0
    · rw [setA_ne q]; exact c.new r (is r e)
end
end K94
set_option maxHeartbeats 4000000
/-! a container's new things and scopes; look-ups in its lists and dicts -/
namespace K94
open PySem PySem.Spec PyProof.Rows L2
section
variable {K : PySem.W.Frag} {g : Gam} {H0 H H1 : Hp} {A : Ad} {S : Cor} {W : Wks}
theorem Ctr.neNew (c : Ctr K g H0 H A S W) {x : Addr} (h : H x = none) : ∀ r, (cont K g A S W r).isSome = true → A.a r ≠ x := fun r hr => by
  obtain ⟨u, e⟩ := Option.isSome_iff_exists.mp hr
  exact ne_of_none (c.at_ r u e) h
theorem thRefs_len (A : Ad) (n : Nat) : (thRefs A n).length = n := by unfold thRefs; rw [List.length_map, List.length_range]
theorem thRefs_get {A : Ad} {n i : Nat} (h : i < n) : (thRefs A n)[i]? = some (.ref (A.a (.thing i))) := by
  unfold thRefs; rw [List.getElem?_map, List.getElem?_range h]; rfl
theorem thRefs_snoc (A : Ad) (n : Nat) : thRefs A (n + 1) = thRefs A n ++ [.ref (A.a (.thing n))] := by
  unfold thRefs; rw [List.range_succ, List.map_append]; rfl
theorem thRefs_congr {A A' : Ad} {n : Nat} (h : ∀ i, i < n → A'.a (.thing i) = A.a (.thing i)) : thRefs A' n = thRefs A n := by
  unfold thRefs
  refine List.map_congr_left fun i hi => ?_
  rw [h i (List.mem_range.mp hi)]
theorem scDict_len (A : Ad) (n : Nat) : (scDict A n).length = n := by unfold scDict; rw [List.length_map, List.length_range]
theorem scDict_snoc (A : Ad) (n : Nat) : scDict A (n + 1) = scDict A n ++ [(Sum.inl (n : Int), .ref (A.a (.scope n)))] := by
  unfold scDict; rw [List.range_succ, List.map_append]; rfl
theorem scDict_congr {A A' : Ad} {n : Nat} (h : ∀ i, i < n → A'.a (.scope i) = A.a (.scope i)) : scDict A' n = scDict A n := by
  unfold scDict
  refine List.map_congr_left fun i hi => ?_
  rw [h i (List.mem_range.mp hi)]
theorem scDict_none {A : Ad} {n : Nat} {i : Int} (h : ∀ j : Nat, j < n → (j : Int) ≠ i) : valV (scDict A n) (Sum.inl i) = none := by
  induction n with
  | zero => rfl
  | succ n ih =>
    rw [scDict_snoc, valV_snoc _ _ _ _ (show valV (scDict A n) (Sum.inl (n : Int)) = none from ?_), if_neg fun q => h n (Nat.lt_succ_self n) (Sum.inl.inj q).symm]
    · exact ih fun j hj => h j (Nat.lt_succ_of_lt hj)
    · clear ih h
      have key : ∀ m k : Nat, m ≤ k → valV (scDict A m) (Sum.inl (k : Int)) = none := fun m => by
        induction m with
        | zero => intro k _; rfl
        | succ m ih =>
          intro k hk
          rw [scDict_snoc, valV_snoc _ _ _ _ (ih m (Nat.le_refl m)), if_neg fun q => ?_]
          · exact ih k (Nat.le_of_succ_le hk)
          · have := Sum.inl.inj q
            omega
      exact key n n (Nat.le_refl n)
theorem scDict_get {A : Ad} {n i : Nat} (h : i < n) : valV (scDict A n) (Sum.inl (i : Int)) = some (.ref (A.a (.scope i))) := by
  induction n with
  | zero => omega
  | succ n ih =>
    rw [scDict_snoc, valV_snoc _ _ _ _ (scDict_none fun j hj => by omega)]
    by_cases q : i = n
    · rw [q, if_pos rfl]
    · rw [if_neg fun z => q (by have := Sum.inl.inj z; omega)]
      exact ih (by omega)
theorem scDict_put {A : Ad} {n : Nat} {v : V} : putK (scDict A n) (Sum.inl (n : Int)) v = scDict A n ++ [(Sum.inl (n : Int), v)] := putK_new v (scDict_none fun j hj => by omega)

/-- a thing was made outside; it comes into the list -/
theorem Ctr.wNewThing (c0 : Ctr K g H0 H A S W) (s : Same H H1) {x l dx : Addr} {name : Str} {home : Nat} (nx : H x = none) (nl : H l = none) (hxl : x ≠ l)
    (hx : H1 x = some (.ins (CThing K) dx (fsThing (.str name) (.int home) (.ref l) (.bl false)))) (hl : H1 l = some (.lst [])) :
    Ctr K g H0 (upd H1 (A.a .things) (.lst (thRefs A S.things.length ++ [.ref x]))) { A with a := setA (setA A.a (.thing S.things.length) x) (.got S.things.length) l, d := setA A.d (.thing S.things.length) dx } (S.addT ⟨name, home, [], false⟩) W := by
  have c := c0.grow s
  generalize hn : S.things.length = n
  generalize hA : ({ A with a := setA (setA A.a (.thing n) x) (.got n) l, d := setA A.d (.thing n) dx } : Ad) = A'
  have a1 : A'.a (.thing n) = x := by rw [← hA]; show setA (setA A.a (.thing n) x) (.got n) l (.thing n) = x; rw [setA_ne (by simp), setA_same]
  have a2 : A'.a (.got n) = l := by rw [← hA]; exact setA_same
  have a3 : ∀ r, r ≠ .thing n → r ≠ .got n → A'.a r = A.a r := fun r h1 h2 => by rw [← hA]; show setA (setA A.a (.thing n) x) (.got n) l r = _; rw [setA_ne h2, setA_ne h1]
  have d1 : A'.d (.thing n) = dx := by rw [← hA]; exact setA_same
  have d3 : ∀ r, r ≠ .thing n → A'.d r = A.d r := fun r h1 => by rw [← hA]; exact setA_ne h1
  have f1 : A'.fv = A.fv := by rw [← hA]
  have f2 : A'.wv = A.wv := by rw [← hA]
  have f3 : A'.dn = A.dn := by rw [← hA]
  have e0 : cont K g A S W .things = some (.lst (thRefs A n)) := by rw [← hn]; rfl
  have tu : Tups H1 (upd H1 (A.a .things) (.lst (thRefs A n ++ [.ref x]))) := c.tups _ e0 True.intro
  have old : ∀ r, r ≠ .thing n → r ≠ .got n → r ≠ .things → cont K g A' (S.addT ⟨name, home, [], false⟩) W r = cont K g A S W r := fun r h1 h2 h3 => by
    have gt : ∀ j, j ≠ n → (S.things ++ [⟨name, home, [], false⟩])[j]? = S.things[j]? := fun j hj => by
      rcases Nat.lt_or_ge j n with q | q
      · rw [List.getElem?_append_left (by omega)]
      · rw [List.getElem?_eq_none (by rw [List.length_append, List.length_singleton]; omega), List.getElem?_eq_none (by omega)]
    cases r with
    | self => show some (HO.ins _ (A'.d .self) (selfFs g A' W.po)) = _; unfold selfFs; rw [d3 _ (by simp), f3, a3 _ (by simp) (by simp), a3 _ (by simp) (by simp), a3 _ (by simp) (by simp), a3 _ (by simp) (by simp), a3 _ (by simp) (by simp), a3 _ (by simp) (by simp), a3 _ (by simp) (by simp)]; rfl
    | things => exact absurd rfl h3
    | scopes => show some (HO.dK (scDict A' _)) = some (HO.dK (scDict A _)); rw [scDict_congr fun i _ => a3 _ (by simp) (by simp)]; rfl
    | kept => rfl
    | works => show some (HO.dK (wkDict W.ws A'.wv)) = _; rw [f2]; rfl
    | loose => rfl
    | left => rfl
    | faults => show some (HO.lst A'.fv) = _; rw [f1]; rfl
    | thing j =>
      have hj : j ≠ n := fun q => h1 (by rw [q])
      show (S.things ++ [_])[j]?.map (fun t => HO.ins (CThing K) (A'.d (.thing j)) (thingFs A' j t)) = S.things[j]?.map fun t => HO.ins (CThing K) (A.d (.thing j)) (thingFs A j t)
      rw [gt j hj, d3 _ h1]
      congr 1
      funext t
      unfold thingFs
      rw [a3 _ (by simp) (by simp [hj])]
    | got j =>
      have hj : j ≠ n := fun q => h2 (by rw [q])
      show (S.things ++ [_])[j]?.map _ = S.things[j]?.map _
      rw [gt j hj]
    | scope j => show S.scopes[j]?.map (fun s => HO.ins (CScope K) (A'.d (.scope j)) (scopeFs s)) = S.scopes[j]?.map fun s => HO.ins (CScope K) (A.d (.scope j)) (scopeFs s); rw [d3 _ (by simp)]
  have live : ∀ r, r ≠ .thing n → r ≠ .got n → (cont K g A' (S.addT ⟨name, home, [], false⟩) W r).isSome = true → (cont K g A S W r).isSome = true := fun r h1 h2 h => by
    by_cases q : r = .things
    · rw [q]; rfl
    · rw [← old r h1 h2 q]; exact h
  have new : (S.things ++ [(⟨name, home, [], false⟩ : Thg)])[n]? = some ⟨name, home, [], false⟩ := by rw [List.getElem?_append_right (by omega), hn, Nat.sub_self]; rfl
  have neX := c0.neNew nx
  have neL := c0.neNew nl
  refine ⟨c.st, fun b u e => ?_, fun r u e => ?_, fun r1 r2 e1 e2 e => ?_, fun r e => ?_, by rw [f1]; exact c.fts' tu, by rw [f2]; exact c.wks' tu⟩
  · rw [upd_ne fun q => ?_]
    · exact c.same _ _ e
    · have z := c.new .things rfl
      rw [← q, e] at z
      cases z
  · by_cases q1 : r = .thing n
    · subst q1
      rw [a1, upd_ne (Ne.symm (neX .things rfl)), hx, ← e]
      show _ = (S.things ++ [_])[n]?.map _
      rw [new, Option.map_some, d1]
      unfold thingFs
      rw [a2]
    · by_cases q2 : r = .got n
      · subst q2
        rw [a2, upd_ne (Ne.symm (neL .things rfl)), hl, ← e]
        show _ = (S.things ++ [_])[n]?.map _
        rw [new]
        rfl
      · rw [a3 r q1 q2]
        by_cases q3 : r = .things
        · subst q3
          rw [upd_same, ← e]
          show _ = some (HO.lst (thRefs A' (S.things ++ [_]).length))
          rw [List.length_append, List.length_singleton, hn, thRefs_snoc, a1, thRefs_congr fun i hi => a3 _ (by simp; omega) (by simp)]
        · have hr := live r q1 q2 (by rw [e]; rfl)
          rw [upd_ne fun z => q3 (c.inj r .things hr rfl z)]
          exact c.at_ r u (by rw [← old r q1 q2 q3]; exact e)
  · by_cases p1 : r1 = .thing n
    · by_cases p2 : r2 = .thing n
      · rw [p1, p2]
      · by_cases p3 : r2 = .got n
        · rw [p1, p3, a1, a2] at e; exact absurd e hxl
        · rw [p1, a1, a3 r2 p2 p3] at e
          exact absurd e.symm (neX r2 (live r2 p2 p3 e2))
    · by_cases p4 : r1 = .got n
      · by_cases p2 : r2 = .thing n
        · rw [p4, p2, a1, a2] at e; exact absurd e.symm hxl
        · by_cases p3 : r2 = .got n
          · rw [p4, p3]
          · rw [p4, a2, a3 r2 p2 p3] at e
            exact absurd e.symm (neL r2 (live r2 p2 p3 e2))
      · rw [a3 r1 p1 p4] at e
        have l1 := live r1 p1 p4 e1
        by_cases p2 : r2 = .thing n
        · rw [p2, a1] at e; exact absurd e (neX r1 l1)
        · by_cases p3 : r2 = .got n
          · rw [p3, a2] at e; exact absurd e (neL r1 l1)
          · rw [a3 r2 p2 p3] at e
            exact c.inj r1 r2 l1 (live r2 p2 p3 e2) e
  · by_cases q1 : r = .thing n
    · rw [q1, a1]; exact c0.same.free nx
    · by_cases q2 : r = .got n
      · rw [q2, a2]; exact c0.same.free nl
      · rw [a3 r q1 q2]; exact c.new r (live r q1 q2 e)

/-- a scope was made outside; it comes into the dict -/
theorem Ctr.wNewScope (c0 : Ctr K g H0 H A S W) (s : Same H H1) {x dx : Addr} {z : Scp} (nx : H x = none) (hx : H1 x = some (.ins (CScope K) dx (scopeFs z))) :
    Ctr K g H0 (upd H1 (A.a .scopes) (.dK (scDict A S.scopes.length ++ [(Sum.inl (S.scopes.length : Int), .ref x)]))) { A with a := setA A.a (.scope S.scopes.length) x, d := setA A.d (.scope S.scopes.length) dx } (S.addS z) W := by
  have c := c0.grow s
  generalize hn : S.scopes.length = n
  generalize hA : ({ A with a := setA A.a (.scope n) x, d := setA A.d (.scope n) dx } : Ad) = A'
  have a1 : A'.a (.scope n) = x := by rw [← hA]; exact setA_same
  have a3 : ∀ r, r ≠ .scope n → A'.a r = A.a r := fun r h1 => by rw [← hA]; exact setA_ne h1
  have d1 : A'.d (.scope n) = dx := by rw [← hA]; exact setA_same
  have d3 : ∀ r, r ≠ .scope n → A'.d r = A.d r := fun r h1 => by rw [← hA]; exact setA_ne h1
  have f1 : A'.fv = A.fv := by rw [← hA]
  have f2 : A'.wv = A.wv := by rw [← hA]
  have f3 : A'.dn = A.dn := by rw [← hA]
  have e0 : cont K g A S W .scopes = some (.dK (scDict A n)) := by rw [← hn]; rfl
  have tu : Tups H1 (upd H1 (A.a .scopes) (.dK (scDict A n ++ [(Sum.inl (n : Int), .ref x)]))) := c.tups _ e0 True.intro
  have old : ∀ r, r ≠ .scope n → r ≠ .scopes → cont K g A' (S.addS z) W r = cont K g A S W r := fun r h1 h3 => by
    have gt : ∀ j, j ≠ n → (S.scopes ++ [z])[j]? = S.scopes[j]? := fun j hj => by
      rcases Nat.lt_or_ge j n with q | q
      · rw [List.getElem?_append_left (by omega)]
      · rw [List.getElem?_eq_none (by rw [List.length_append, List.length_singleton]; omega), List.getElem?_eq_none (by omega)]
    cases r with
    | self => show some (HO.ins _ (A'.d .self) (selfFs g A' W.po)) = _; unfold selfFs; rw [d3 _ (by simp), f3, a3 _ (by simp), a3 _ (by simp), a3 _ (by simp), a3 _ (by simp), a3 _ (by simp), a3 _ (by simp), a3 _ (by simp)]; rfl
    | scopes => exact absurd rfl h3
    | things => show some (HO.lst (thRefs A' _)) = some (HO.lst (thRefs A _)); rw [thRefs_congr fun i _ => a3 _ (by simp)]; rfl
    | kept => rfl
    | works => show some (HO.dK (wkDict W.ws A'.wv)) = _; rw [f2]; rfl
    | loose => rfl
    | left => rfl
    | faults => show some (HO.lst A'.fv) = _; rw [f1]; rfl
    | thing j =>
      show S.things[j]?.map (fun t => HO.ins (CThing K) (A'.d (.thing j)) (thingFs A' j t)) = S.things[j]?.map fun t => HO.ins (CThing K) (A.d (.thing j)) (thingFs A j t)
      rw [d3 _ h1]
      congr 1
      funext t
      unfold thingFs
      rw [a3 _ (by simp)]
    | got j => rfl
    | scope j =>
      have hj : j ≠ n := fun q => h1 (by rw [q])
      show (S.scopes ++ [_])[j]?.map (fun s => HO.ins (CScope K) (A'.d (.scope j)) (scopeFs s)) = S.scopes[j]?.map fun s => HO.ins (CScope K) (A.d (.scope j)) (scopeFs s)
      rw [gt j hj, d3 _ h1]
  have live : ∀ r, r ≠ .scope n → (cont K g A' (S.addS z) W r).isSome = true → (cont K g A S W r).isSome = true := fun r h1 h => by
    by_cases q : r = .scopes
    · rw [q]; rfl
    · rw [← old r h1 q]; exact h
  have new : (S.scopes ++ [z])[n]? = some z := by rw [List.getElem?_append_right (by omega), hn, Nat.sub_self]; rfl
  have neX := c0.neNew nx
  refine ⟨c.st, fun b u e => ?_, fun r u e => ?_, fun r1 r2 e1 e2 e => ?_, fun r e => ?_, by rw [f1]; exact c.fts' tu, by rw [f2]; exact c.wks' tu⟩
  · rw [upd_ne fun q => ?_]
    · exact c.same _ _ e
    · have z := c.new .scopes rfl
      rw [← q, e] at z
      cases z
  · by_cases q1 : r = .scope n
    · subst q1
      rw [a1, upd_ne (Ne.symm (neX .scopes rfl)), hx, ← e]
      show _ = (S.scopes ++ [_])[n]?.map _
      rw [new, Option.map_some, d1]
    · rw [a3 r q1]
      by_cases q3 : r = .scopes
      · subst q3
        rw [upd_same, ← e]
        show _ = some (HO.dK (scDict A' (S.scopes ++ [_]).length))
        rw [List.length_append, List.length_singleton, hn, scDict_snoc, a1, scDict_congr fun i hi => a3 _ (by simp; omega)]
      · have hr := live r q1 (by rw [e]; rfl)
        rw [upd_ne fun z => q3 (c.inj r .scopes hr rfl z)]
        exact c.at_ r u (by rw [← old r q1 q3]; exact e)
  · by_cases p1 : r1 = .scope n
    · by_cases p2 : r2 = .scope n
      · rw [p1, p2]
      · rw [p1, a1, a3 r2 p2] at e
        exact absurd e.symm (neX r2 (live r2 p2 e2))
    · rw [a3 r1 p1] at e
      have l1 := live r1 p1 e1
      by_cases p2 : r2 = .scope n
      · rw [p2, a1] at e; exact absurd e (neX r1 l1)
      · rw [a3 r2 p2] at e
        exact c.inj r1 r2 l1 (live r2 p2 e2) e
  · by_cases q1 : r = .scope n
    · rw [q1, a1]; exact c0.same.free nx
    · rw [a3 r q1]; exact c.new r (live r q1 e)
end
end K94
set_option maxHeartbeats 4000000
/-! the mirror: what the container's methods do to the plain data -/
namespace K94
open PySem PySem.Spec PyProof.Rows L2

def PM.life (M : PM) (n : Str) : Int := match M.get n with | some p => p.life | none => 0
def PM.wants (M : PM) (n : Str) : List (Bool × Str) := match M.get n with | some p => p.wants | none => []
def lvl (sc : List Scp) (s : Nat) : Nat := match sc[s]? with | some x => x.level | none => 0
def und (sc : List Scp) (s : Nat) : Nat := match sc[s]? with | some x => x.under.getD 0 | none => 0
/-- the ancestor of the level k -/
def ancF (sc : List Scp) : Nat → Nat → Int → Nat
  | 0, s, _ => s
  | f + 1, s, k => if (lvl sc s : Int) > k then ancF sc f (und sc s) k else s
def anc (sc : List Scp) (s : Nat) (k : Int) : Nat := ancF sc (lvl sc s) s k
def placeOf (g : Gam) (sc : List Scp) (n : Str) (s : Nat) : Option Nat :=
  if (lvl sc s : Int) ≥ g.M.life n then some (anc sc s (g.M.life n)) else if g.bk.lifted = "kept" then some s else none
def kget (l : List ((Str × Nat) × Nat)) (n : Str) (pl : Nat) : Option Nat := (l.find? fun e => decide (e.1 = (n, pl))).map (·.2)
def Cor.tname (S : Cor) (k : Nat) : Str := match S.things[k]? with | some t => t.name | none => ""
def Cor.addGot (S : Cor) (i : Nat) (o : Option Nat) : Cor := match S.things[i]? with
  | some t => S.setT i { t with got := t.got ++ [o] }
  | none => S
abbrev GetF := Cor → Str → Nat → Nat → List Str → Cor × Option Nat
/-- the fault is noted if nothing is got -/
def miss (S : Cor) (k : Nat) (p : List Str) : Option Nat → Cor
  | none => S.fault "missing" k p
  | some _ => S
/-- ask for what a thing wants -/
def wantedG (get : GetF) (S : Cor) (k : Nat) (n : Str) (src req : Nat) (p : List Str) : Cor × Option Nat :=
  let r := get S n src req (p ++ [n])
  (miss r.1 k (p ++ [n]) r.2, r.2)
def makeStep (get : GetF) (k src req : Nat) (p : List Str) (S : Cor) (w : Bool × Str) : Cor :=
  if w.1 = true then (let r := wantedG get S k w.2 src req p; r.1.addGot k r.2) else S
def makeG (g : Gam) (get : GetF) (S : Cor) (n : Str) (home req : Nat) (p : List Str) : Cor :=
  (g.M.wants n).foldl (makeStep get S.things.length (if g.bk.held = "home" then home else req) req p) (S.addT ⟨n, home, [], false⟩)
def getF (g : Gam) : Nat → GetF
  | 0, S, _, _, _, _ => (S, none)
  | f + 1, S, n, s, req, p =>
    if g.M.life n = -1 then (makeG g (getF g f) S n s req p, some S.things.length)
    else match placeOf g S.scopes n s with
      | none => (S, none)
      | some pl => match kget S.kept n pl with
        | some k => (S, some k)
        | none => ((makeG g (getF g f) S n pl req p).addK n pl S.things.length, some S.things.length)
/-- more than any rank -/
def TOP : Nat := 6
def letLoose (g : Gam) (S : Cor) : Option Nat → Cor
  | none => S
  | some k => if g.M.life (S.tname k) = -1 then S.addL k else S
def onO (use : Cor → Nat → Cor) (S : Cor) : Option Nat → Cor
  | none => S
  | some j => use S j
/-- a use's loop over the wants: the state, what is held and not yet used -/
def useStep (g : Gam) (use : Cor → Nat → List Str → Cor) (k src req : Nat) (p : List Str) (q : Cor × List (Option Nat)) (w : Bool × Str) : Cor × List (Option Nat) :=
  let r : Cor × Option Nat × List (Option Nat) := if w.1 = true then (q.1, q.2.headD none, q.2.tail) else (let r := wantedG (getF g TOP) q.1 k w.2 src req p; (letLoose g r.1 r.2, r.2, q.2))
  (onO (fun S j => use S j (p ++ [w.2])) r.1 r.2.1, r.2.2)
def useHead (g : Gam) (S : Cor) (k req : Nat) (p : List Str) (t : Thg) : Cor :=
  let S1 := if t.ended = true then S.fault "ended" k p else S
  if g.M.life t.name ≠ -1 ∧ t.home ≠ anc S.scopes req (g.M.life t.name) then S1.fault "strayed" k p else S1
def useF (g : Gam) : Nat → Cor → Nat → Nat → List Str → Cor
  | 0, S, _, _, _ => S
  | f + 1, S, k, req, p => match S.things[k]? with
    | none => S
    | some t => ((g.M.wants t.name).foldl (useStep g (fun S j p => useF g f S j req p) k (if g.bk.each = "now" then req else 0) req p) (useHead g S k req p t, t.got)).1
/-- a thing ends -/
def endStep (g : Gam) (en : Cor → Nat → Cor) (S : Cor) (h : Option Nat) : Cor := match h with
  | some j => if g.M.life (S.tname j) = -1 then en S j else S
  | none => S
def endF (g : Gam) : Nat → Cor → Nat → Cor
  | 0, S, _ => S
  | f + 1, S, k => match S.things[k]? with
    | none => S
    | some t => if g.bk.ends = "holder" then t.got.foldl (endStep g (endF g f)) (S.setT k { t with ended := true }) else S.setT k { t with ended := true }
def shutStep (g : Gam) (s : Nat) (S : Cor) (k : Nat) : Cor := match S.things[k]? with
  | some t => if t.home = s ∧ (g.M.life t.name ≠ -1 ∨ g.bk.ends = "scope") then endF g TOP S k else S
  | none => S
def Cor.close (S : Cor) (s : Nat) : Cor := match S.scopes[s]? with
  | some x => S.setS s { x with alive := false }
  | none => S
def shutF (g : Gam) (S : Cor) (s : Nat) : Cor := (List.range S.things.length).foldl (shutStep g s) (S.close s)
/-- the attached things -/
inductive Att (g : Gam) (T : List Thg) : Nat → Prop where
  | root {k : Nat} {t : Thg} : T[k]? = some t → t.home = 0 → g.M.life t.name ≠ -1 → Att g T k
  | held {k j : Nat} {t : Thg} : Att g T k → T[k]? = some t → some j ∈ t.got → Att g T j
/-- the numbers of the open scopes, in order -/
def openS (sc : List Scp) : List Nat := (List.range sc.length).filter fun i => match sc[i]? with | some x => x.alive | none => false
open Classical in
noncomputable def leftStep (g : Gam) (T : List Thg) (S : Cor) (k : Nat) : Cor := match T[k]? with
  | some t => if (g.M.life t.name = -1 ∧ t.ended = false) ∧ ¬ Att g T k ∧ k ∉ S.left then (S.addLeft k).fault "left" k [t.name] else S
  | none => S
/-- the end of a deed; b: no work waits -/
noncomputable def finF (g : Gam) (S : Cor) (b : Bool) : Cor :=
  let S1 : Cor := { (if g.bk.ends = "holder" then S.loose.foldl (endF g TOP) S else S) with loose := [] }
  if (openS S1.scopes).length = 1 ∧ b = true then (List.range S1.things.length).foldl (leftStep g S1.things) S1 else S1
def Cor.opened (S : Cor) (s : Nat) : Cor := S.addS ⟨lvl S.scopes s + 1, some s, true⟩
/-! the deeds -/
noncomputable def dBegin (g : Gam) (S : Cor) (s : Nat) : Cor := finF g (S.opened s) true
noncomputable def dClose (g : Gam) (S : Cor) (s : Nat) : Cor := finF g (shutF g S s) true
noncomputable def dAsk (g : Gam) (S : Cor) (req : Nat) (n : Str) : Cor × Option Nat :=
  let r := getF g TOP S n req req [n]
  (finF g (letLoose g r.1 r.2) true, r.2)
def runU (g : Gam) (S : Cor) (req : Nat) (n : Str) (o : Option Nat) : Cor := match o with
  | some k => useF g TOP (letLoose g S (some k)) k req [n]
  | none => S
noncomputable def dUse (g : Gam) (S : Cor) (req : Nat) (n : Str) : Cor × Option Nat :=
  let r := getF g TOP S n req req [n]
  (finF g (runU g r.1 req n r.2) true, r.2)
end K94
set_option maxHeartbeats 4000000
/-! plain facts about asking: what stays, what grows -/
namespace K94
open PySem PySem.Spec PyProof.Rows L2

/-- the size that counts -/
def sz (S : Cor) : Nat := S.things.length + S.kept.length + S.faults.length + S.loose.length + S.left.length
def BIG : Nat := 2000000
theorem BIG_lt : BIG < sizeLine := by rw [sizeLine_eq]; decide
/-- S' came out of S by asking: the same scopes, the same loose and left things, things only added -/
structure Grow (S S' : Cor) : Prop where
  sc : S'.scopes = S.scopes
  lo : S'.loose = S.loose
  le : S'.left = S.left
  th : ∃ new, S'.things = S.things ++ new
  sz : sz S ≤ sz S'
theorem Grow.refl (S : Cor) : Grow S S := ⟨rfl, rfl, rfl, ⟨[], by simp⟩, Nat.le_refl _⟩
theorem Grow.trans {S S1 S2 : Cor} (a : Grow S S1) (b : Grow S1 S2) : Grow S S2 := by
  obtain ⟨n1, h1⟩ := a.th
  obtain ⟨n2, h2⟩ := b.th
  exact ⟨b.sc.trans a.sc, b.lo.trans a.lo, b.le.trans a.le, ⟨n1 ++ n2, by rw [h2, h1, List.append_assoc]⟩, Nat.le_trans a.sz b.sz⟩
theorem Grow.get {S S' : Cor} (h : Grow S S') {k : Nat} {t : Thg} (e : S.things[k]? = some t) : S'.things[k]? = some t := by
  obtain ⟨n, q⟩ := h.th
  rw [q, List.getElem?_append_left (List.getElem?_eq_some_iff.mp e).1]
  exact e
theorem Grow.len {S S' : Cor} (h : Grow S S') : S.things.length ≤ S'.things.length := by
  obtain ⟨n, q⟩ := h.th
  rw [q, List.length_append]
  omega
theorem Grow.name {S S' : Cor} (h : Grow S S') {k : Nat} (e : k < S.things.length) : S'.tname k = S.tname k := by
  have e1 := List.getElem?_eq_getElem e
  unfold Cor.tname
  rw [e1, h.get e1]
theorem grow_fault (S : Cor) (w : Str) (n : Nat) (p : List Str) : Grow S (S.fault w n p) := ⟨rfl, rfl, rfl, ⟨[], by simp [Cor.fault]⟩, by unfold sz Cor.fault; simp <;> omega⟩
theorem grow_addT (S : Cor) (t : Thg) : Grow S (S.addT t) := ⟨rfl, rfl, rfl, ⟨[t], rfl⟩, by unfold sz Cor.addT; simp <;> omega⟩
theorem grow_addK (S : Cor) (n : Str) (pl k : Nat) : Grow S (S.addK n pl k) := ⟨rfl, rfl, rfl, ⟨[], by simp [Cor.addK]⟩, by
  have h : S.kept.length ≤ (kput S.kept n pl k).length := by
    unfold kput
    split
    · rw [List.length_map]; exact Nat.le_refl _
    · rw [List.length_append]; omega
  unfold sz Cor.addK
  show _ ≤ S.things.length + (kput S.kept n pl k).length + S.faults.length + S.loose.length + S.left.length
  omega⟩
/-- what a fold keeps -/
theorem foldl_keep {α β : Type} {P : β → β → Prop} (hr : ∀ b, P b b) (ht : ∀ a b c, P a b → P b c → P a c) {f : β → α → β} (hf : ∀ b a, P b (f b a)) : ∀ (l : List α) (b : β), P b (l.foldl f b)
  | [], b => hr b
  | a :: l, b => ht _ _ _ (hf b a) (foldl_keep hr ht hf l (f b a))
theorem foldl_take {α β : Type} {f : β → α → β} (l : List α) (b : β) (i : Nat) : l.foldl f b = (l.drop i).foldl f ((l.take i).foldl f b) := by
  rw [← List.foldl_append, List.take_append_drop]
theorem take_succ {α β : Type} {f : β → α → β} {l : List α} {b : β} {i : Nat} {x : α} (h : l[i]? = some x) : (l.take (i + 1)).foldl f b = f ((l.take i).foldl f b) x := by
  rw [List.take_add_one, h, List.foldl_append]
  rfl
theorem wanted_grow {get : GetF} (hg : ∀ S n s r p, Grow S (get S n s r p).1) (S : Cor) (k : Nat) (n : Str) (src req : Nat) (p : List Str) : Grow S (wantedG get S k n src req p).1 := by
  refine (hg S n src req (p ++ [n])).trans ?_
  show Grow _ (miss _ k (p ++ [n]) (get S n src req (p ++ [n])).2)
  cases (get S n src req (p ++ [n])).2 with
  | none => exact grow_fault _ _ _ _
  | some j => exact Grow.refl _
theorem wanted_two {get : GetF} (S : Cor) (k : Nat) (n : Str) (src req : Nat) (p : List Str) : (wantedG get S k n src req p).2 = (get S n src req (p ++ [n])).2 := rfl
/-- within a make: the thing under construction at k may have got more -/
structure GrowB (k : Nat) (S S' : Cor) : Prop where
  sc : S'.scopes = S.scopes
  lo : S'.loose = S.loose
  le : S'.left = S.left
  len : S.things.length ≤ S'.things.length
  th : ∀ j, j ≠ k → ∀ t, S.things[j]? = some t → S'.things[j]? = some t
  me : ∀ t, S.things[k]? = some t → ∃ more, S'.things[k]? = some { t with got := t.got ++ more }
  sz : K94.sz S ≤ K94.sz S'
theorem GrowB.refl (k : Nat) (S : Cor) : GrowB k S S := ⟨rfl, rfl, rfl, Nat.le_refl _, fun _ _ _ h => h, fun t h => ⟨[], by rw [h]; simp⟩, Nat.le_refl _⟩
theorem GrowB.trans {k : Nat} {S S1 S2 : Cor} (a : GrowB k S S1) (b : GrowB k S1 S2) : GrowB k S S2 := by
  refine ⟨b.sc.trans a.sc, b.lo.trans a.lo, b.le.trans a.le, Nat.le_trans a.len b.len, fun j hj t e => b.th j hj t (a.th j hj t e), fun t e => ?_, Nat.le_trans a.sz b.sz⟩
  obtain ⟨m1, e1⟩ := a.me t e
  obtain ⟨m2, e2⟩ := b.me _ e1
  exact ⟨m1 ++ m2, by rw [e2]; simp⟩
theorem Grow.b {S S' : Cor} (h : Grow S S') (k : Nat) : GrowB k S S' := ⟨h.sc, h.lo, h.le, h.len, fun _ _ _ e => h.get e, fun t e => ⟨[], by rw [h.get e]; simp⟩, h.sz⟩
theorem addGot_b (S : Cor) (k : Nat) (o : Option Nat) : GrowB k S (S.addGot k o) := by
  unfold Cor.addGot
  cases e : S.things[k]? with
  | none => exact GrowB.refl k S
  | some t =>
    refine ⟨rfl, rfl, rfl, by show _ ≤ (S.things.set k _).length; rw [List.length_set]; exact Nat.le_refl _, fun j hj u q => ?_, fun u q => ?_, by show sz S ≤ sz (S.setT k _); unfold sz Cor.setT; simp⟩
    · show (S.things.set k _)[j]? = _
      rw [set_get hj]; exact q
    · rw [e] at q
      cases q
      exact ⟨[o], set_here e⟩
theorem makeStep_b {get : GetF} (hg : ∀ S n s r p, Grow S (get S n s r p).1) (k src req : Nat) (p : List Str) (S : Cor) (w : Bool × Str) : GrowB k S (makeStep get k src req p S w) := by
  unfold makeStep
  cases w.1 with
  | false => exact GrowB.refl k S
  | true => exact ((wanted_grow hg S k w.2 src req p).b k).trans (addGot_b _ _ _)
theorem make_b {g : Gam} {get : GetF} (hg : ∀ S n s r p, Grow S (get S n s r p).1) (S : Cor) (n : Str) (home req : Nat) (p : List Str) : GrowB S.things.length (S.addT ⟨n, home, [], false⟩) (makeG g get S n home req p) :=
  foldl_keep (P := GrowB S.things.length) (GrowB.refl _) (fun _ _ _ => GrowB.trans) (makeStep_b hg _ _ _ _) _ _
theorem make_grow {g : Gam} {get : GetF} (hg : ∀ S n s r p, Grow S (get S n s r p).1) (S : Cor) (n : Str) (home req : Nat) (p : List Str) : Grow S (makeG g get S n home req p) := by
  have h := make_b (g := g) hg S n home req p
  have h0 := grow_addT S ⟨n, home, [], false⟩
  refine ⟨h.sc, h.lo, h.le, ⟨(makeG g get S n home req p).things.drop S.things.length, ?_⟩, Nat.le_trans h0.sz h.sz⟩
  have hl : S.things.length ≤ (makeG g get S n home req p).things.length := Nat.le_trans h0.len h.len
  conv => lhs; rw [← List.take_append_drop S.things.length (makeG g get S n home req p).things]
  congr 1
  refine List.ext_getElem? fun j => ?_
  rcases Nat.lt_or_ge j S.things.length with q | q
  · rw [List.getElem?_take_of_lt q]
    have e := List.getElem?_eq_getElem q
    rw [e]
    exact h.th j (Nat.ne_of_lt q) _ (h0.get e)
  · rw [List.getElem?_eq_none (by rw [List.length_take]; omega), List.getElem?_eq_none q]
theorem get_grow (g : Gam) : ∀ (f : Nat) (S : Cor) (n : Str) (s req : Nat) (p : List Str), Grow S (getF g f S n s req p).1
  | 0, S, _, _, _, _ => Grow.refl S
  | f + 1, S, n, s, req, p => by
    have hm := fun (pl : Nat) => make_grow (g := g) (get_grow g f) S n pl req p
    unfold getF
    split
    · exact hm s
    · split
      · exact Grow.refl S
      · split
        · exact Grow.refl S
        · exact (hm _).trans (grow_addK _ _ _ _)
/-- the thing just made -/
theorem make_new {g : Gam} {get : GetF} (hg : ∀ S n s r p, Grow S (get S n s r p).1) (S : Cor) (n : Str) (home req : Nat) (p : List Str) : ∃ got, (makeG g get S n home req p).things[S.things.length]? = some ⟨n, home, got, false⟩ := by
  obtain ⟨m, e⟩ := (make_b (g := g) hg S n home req p).me ⟨n, home, [], false⟩ (by show (S.things ++ _)[_]? = _; rw [List.getElem?_append_right (Nat.le_refl _), Nat.sub_self]; rfl)
  exact ⟨_, e⟩
end K94
set_option maxHeartbeats 4000000
/-! scopes: plain facts; look-ups -/
namespace K94
open PySem PySem.Spec PyProof.Rows L2
structure ScOk (d : Nat) (sc : List Scp) : Prop where
  z : sc[0]? = some ⟨0, none, true⟩
  up : ∀ (i : Nat) (x : Scp), sc[i]? = some x → i ≠ 0 → ∃ u y, x.under = some u ∧ u < i ∧ sc[u]? = some y ∧ x.level = y.level + 1 ∧ (x.alive = true → y.alive = true)
  lv : ∀ (i : Nat) (x : Scp), sc[i]? = some x → x.level ≤ d
theorem lvl_of {sc : List Scp} {i : Nat} {x : Scp} (e : sc[i]? = some x) : lvl sc i = x.level := by unfold lvl; rw [e]
theorem und_of {sc : List Scp} {i u : Nat} {x : Scp} (e : sc[i]? = some x) (h : x.under = some u) : und sc i = u := by unfold und; rw [e]; show x.under.getD 0 = u; rw [h]; rfl
theorem ancF_succ (sc : List Scp) (f s : Nat) (k : Int) : ancF sc (f + 1) s k = if (lvl sc s : Int) > k then ancF sc f (und sc s) k else s := rfl
theorem anc_stop {sc : List Scp} {s : Nat} {k : Int} (h : ¬ (lvl sc s : Int) > k) : anc sc s k = s := by
  unfold anc
  cases e : lvl sc s with
  | zero => rfl
  | succ f => rw [ancF_succ, if_neg h]
theorem anc_go {sc : List Scp} {s u : Nat} {k : Int} (h : (lvl sc s : Int) > k) (hk : 0 ≤ k) (hu : und sc s = u) (hl : lvl sc s = lvl sc u + 1) : anc sc s k = anc sc u k := by
  unfold anc
  rw [hl, ancF_succ, if_pos h, hu]
theorem anc_in {d : Nat} {sc : List Scp} (ok : ScOk d sc) {k : Int} (hk : 0 ≤ k) : ∀ (m s : Nat) (x : Scp), x.level = m → sc[s]? = some x → ∃ y, sc[anc sc s k]? = some y
  | 0, s, x, hm, e => ⟨x, by rw [anc_stop (by rw [lvl_of e, hm]; omega)]; exact e⟩
  | m + 1, s, x, hm, e => by
    by_cases h : (lvl sc s : Int) > k
    · have s0 : s ≠ 0 := fun q => by
        rw [q, ok.z] at e
        cases e
        simp at hm
      obtain ⟨u, y, h1, h2, h3, h4, _⟩ := ok.up s x e s0
      rw [anc_go h hk (und_of e h1) (by rw [lvl_of e, lvl_of h3, h4])]
      exact anc_in ok hk m u y (by omega) h3
    · exact ⟨x, by rw [anc_stop h]; exact e⟩
section
variable {K : PySem.W.Frag} {g : Gam} {H0 H H1 : Hp} {A : Ad} {S : Cor} {W : Wks}
theorem Ctr.dscope (c : Ctr K g H0 H A S W) {i : Nat} {x : Scp} (e : S.scopes[i]? = some x) : DGet H (A.a .scopes) (.int (i : Nat)) (some (.ref (A.a (.scope i)))) :=
  dget_i' c.scopes (scDict_get (List.getElem?_eq_some_iff.mp e).1)
theorem Ctr.sthing (c : Ctr K g H0 H A S W) {i : Nat} {t : Thg} (e : S.things[i]? = some t) : atI (thRefs A S.things.length) (i : Int) = some (.ref (A.a (.thing i))) :=
  atI_nat (thRefs_get (List.getElem?_eq_some_iff.mp e).1)
theorem wants_of {M : PM} {n : Str} {p : Prt} (e : M.get n = some p) : M.wants n = p.wants := by unfold PM.wants; rw [e]
theorem life_of {M : PM} {n : Str} {p : Prt} (e : M.get n = some p) : M.life n = p.life := by unfold PM.life; rw [e]
theorem some_of {α : Type} {o : Option α} (h : o.isSome = true) : ∃ x, o = some x := Option.isSome_iff_exists.mp h
end
theorem kget_val (n : Str) (pl : Nat) : ∀ l : List ((Str × Nat) × Nat), valV (kpDict l) [Sum.inr n, Sum.inl (pl : Int)] = (kget l n pl).map fun (k : Nat) => V.int k
  | [] => rfl
  | e :: l => by
    have ih := kget_val n pl l
    have e1 : kpDict (e :: l) = ([Sum.inr e.1.1, Sum.inl (e.1.2 : Int)], V.int e.2) :: kpDict l := rfl
    rw [e1]
    by_cases q : e.1 = (n, pl)
    · rw [valV_pos (kkey.mpr q)]
      unfold kget
      rw [List.find?_cons_of_pos (by simp [q])]
      rfl
    · rw [valV_neg fun z => q (kkey.mp z), ih]
      unfold kget
      rw [List.find?_cons_of_neg (by simp [q])]
end K94
set_option maxHeartbeats 4000000
/-! the container's small readers -/
namespace K94
open PySem PySem.Spec PyProof.Rows L2
section
variable {P : Program} {w : World} {K : PySem.W.Frag} {mg : Str → Option Value} {base : Heap} {f : Addr} {fd : FuncData}

def spIsOpen (K : PySem.W.Frag) : Sp := fun vs H Q _ => ∃ g H0 A S W s x, vs = [.ref (A.a .self), .int (s : Nat)] ∧ Ctr K g H0 H A S W ∧ S.scopes[s]? = some x ∧ Q (.bl x.alive) H
theorem ok_is_open (F : FnP K "is_open" "Container.is_open" s_Container_is_open f fd) (T : Txt K mg) (g_is_number : GF P w K mg base 1 "is_number" P_is_number spIsNumber) : FnOk P w K mg base CX0 2 f fd P_Container_is_open (spIsOpen K) := by
  refine okD F sc_Container_is_open (fun vs H Q E h => ?_) (fun cdv A outer s H vs Q E hr h => ?_)
  · obtain ⟨_, _, _, _, _, _, _, rfl, _⟩ := h; rfl
  · obtain ⟨g, H0, A, S, W, s, x, rfl, c, e, q⟩ := h
    refine ⟨_, pss_one (ps_ret (pe_and (pe_g g_is_number (hr.mono (by decide)) (pa_cons (pv 1) pa_nil)) (pe_and (pe_cmp (pc_din (hu_of hr) (pv 1) (pe_f (pv 0) T.c_Container T.n_Container_c_scopes))) (pe_one (pe_f (pe_dget (hu_of hr) (pe_f (pv 0) T.c_Container T.n_Container_c_scopes) (pv 1) (fun _ _ => rfl)) T.c_Scope T.n_Scope_alive))))), ?_⟩
    exact ⟨_, rfl, _, rfl, _, rfl, iteT ⟨_, rfl, _, rfl, _, _, _, _, rfl, c.self, lk_Container_c_scopes, _, _, rfl, c.dscope e, _, rfl, iteT ⟨_, rfl, _, _, _, _, rfl, c.self, lk_Container_c_scopes, _, rfl, _, _, rfl, c.dscope e, _, _, _, _, rfl, c.scope e, lk_Scope_alive, q⟩⟩⟩

def spNeedReq (K : PySem.W.Frag) : Sp := fun vs H Q _ => ∃ g H0 A S W s x, vs = [.ref (A.a .self), .int (s : Nat)] ∧ Ctr K g H0 H A S W ∧ S.scopes[s]? = some x ∧ x.alive = true ∧ x.level = g.M.depth ∧ Q .non H
theorem ok_need_request (F : FnP K "need_request" "Container.need_request" s_Container_need_request f fd) (T : Txt K mg) (m_Container_is_open : GM P w K mg base 2 (CContainer K) "is_open" P_Container_is_open (spIsOpen K)) (p_Parts_depth : PR P w K mg base (CParts K) "depth" "g_depth") : FnOk P w K mg base CX0 3 f fd P_Container_need_request (spNeedReq K) := by
  refine okD F sc_Container_need_request (fun vs H Q E h => ?_) (fun cdv A outer s H vs Q E hr h => ?_)
  · obtain ⟨_, _, _, _, _, _, _, rfl, _⟩ := h; rfl
  · obtain ⟨g, H0, A, S, W, s, x, rfl, c, e, ea, el, q⟩ := h
    obtain ⟨dx, gd, kvs, p⟩ := c.parts
    refine ⟨_, pss_one (ps_if (PW.pt (pw_or (pt_not (pt_val (pe_m m_Container_is_open (hr.mono (by decide)) (pv 0) (pa_cons (pv 1) pa_nil)))) (pw_or1 (pt_cmpR op_lt (pe_f (pe_dget (hu_of hr) (pe_f (pv 0) T.c_Container T.n_Container_c_scopes) (pv 1) (fun _ _ => rfl)) T.c_Scope T.n_Scope_level) (pe_pr p_Parts_depth (hr.mono (by decide)) (pe_f (pv 0) T.c_Container T.n_Container_c_parts)) (nomark _)))))
      (pss_never)
      (pss_nil)), ?_⟩
    refine ⟨_, rfl, _, _, _, rfl, c.self, no_Container_is_open, _, rfl, g, H0, A, S, W, s, x, rfl, c, e, _, rfl, ?_⟩
    rw [ea]
    refine iteF ⟨_, rfl, _, _, _, _, rfl, c.self, lk_Container_c_scopes, _, rfl, _, _, rfl, c.dscope e, _, _, _, _, rfl, c.scope e, lk_Scope_level, _, rfl, _, _, _, _, rfl, c.self, lk_Container_c_parts, _, _, _, _, rfl, p.self, lk_Parts_g_depth, _, _, rfl, rfl, _, rfl, ?_⟩
    rw [el, decide_eq_false (by omega)]
    exact iteF q

def spAncestor (K : PySem.W.Frag) : Sp := fun vs H Q _ => ∃ g H0 A S W s k x, vs = [.ref (A.a .self), .int (s : Nat), .int k] ∧ Ctr K g H0 H A S W ∧ ScOk g.M.depth S.scopes ∧ S.scopes[s]? = some x ∧ 0 ≤ k ∧ Q (.int (anc S.scopes s k : Nat)) H
theorem ok_ancestor (F : FnP K "ancestor" "Container.ancestor" s_Container_ancestor f fd) (T : Txt K mg) : FnOk P w K mg base CX0 1 f fd P_Container_ancestor (spAncestor K) := by
  refine okD F sc_Container_ancestor (fun vs H Q E h => ?_) (fun cdv A outer s H vs Q E hr h => ?_)
  · obtain ⟨_, _, _, _, _, _, _, _, rfl, _⟩ := h; rfl
  · obtain ⟨g, H0, A, S, W, s, k, x, rfl, c, ok, e, hk, q⟩ := h
    have nd := sc_Container_ancestor.nd
    refine ⟨_, pss_cons (ps_while PassesOwn.never (pt_cmpR op_gt (pe_f (pe_dget (hu_of hr) (pe_f (pv 0) T.c_Container T.n_Container_c_scopes) (pv 1) (fun _ _ => rfl)) T.c_Scope T.n_Scope_level) (pv 2) (nomark _))
      (pss_one (ps_set (i := 1) nd rfl (Or.inl rfl) (pe_f (pe_dget (hu_of hr) (pe_f (pv 0) T.c_Container T.n_Container_c_scopes) (pv 1) (fun _ _ => rfl)) T.c_Scope T.n_Scope_under))))
    (pss_one (ps_ret (pv 1))), ?_⟩
    refine ⟨fun m σ H' => H' = H ∧ ∃ (z : Nat) (y : Scp), σ = [some (.ref (A.a .self)), some (.int (z : Nat)), some (.int k)] ∧ S.scopes[z]? = some y ∧ y.level = m ∧ anc S.scopes z k = anc S.scopes s k, ⟨_, rfl, s, x, rfl, e, rfl, rfl⟩, ?_⟩
    rintro m σ H' ⟨rfl, z, y, rfl, ez, em, ea⟩
    refine ⟨_, rfl, _, _, _, _, rfl, c.self, lk_Container_c_scopes, _, rfl, _, _, rfl, c.dscope ez, _, _, _, _, rfl, c.scope ez, lk_Scope_level, _, rfl, _, _, rfl, rfl, _, rfl, ?_⟩
    refine ite2 (fun h => ?_) (fun h => ?_)
    · have h := of_decide_eq_true h
      have z0 : z ≠ 0 := fun q => by
        rw [q, ok.z] at ez
        cases ez
        simp at h
        omega
      obtain ⟨u, v, h1, h2, h3, h4, _⟩ := ok.up z y ez z0
      refine ⟨fun σ' H'' => H'' = H' ∧ σ' = [some (.ref (A.a .self)), some (.int (u : Nat)), some (.int k)], ?_, ?_⟩
      · rintro σ' H'' ⟨rfl, rfl⟩
        refine ⟨v.level, by omega, rfl, u, v, rfl, h3, rfl, ?_⟩
        rw [← ea, anc_go (by rw [lvl_of ez]; exact h) hk (und_of ez h1) (by rw [lvl_of ez, lvl_of h3, h4])]
      · refine ⟨_, rfl, _, _, _, _, rfl, c.self, lk_Container_c_scopes, _, rfl, _, _, rfl, c.dscope ez, _, _, _, _, rfl, c.scope ez, lk_Scope_under, rfl, ?_⟩
        rw [h1]
        rfl
    · have h : ¬ (y.level : Int) > k := fun q => h (decide_eq_true q)
      refine ⟨_, rfl, ?_⟩
      rw [← ea, anc_stop (by rw [lvl_of ez]; exact h)] at q
      exact q

def spLetLoose (K : PySem.W.Frag) : Sp := fun vs H Q _ => ∃ g H0 A S W o, vs = [.ref (A.a .self), oV o] ∧ Ctr K g H0 H A S W ∧ (∀ k, o = some k → ∃ t, S.things[k]? = some t ∧ (g.M.get t.name).isSome = true) ∧ sz (letLoose g S o) ≤ BIG ∧ ∀ H', Ctr K g H0 H' A (letLoose g S o) W → Tups H H' → Q .non H'
theorem ok_let_loose (F : FnP K "let_loose" "Container.let_loose" s_Container_let_loose f fd) (T : Txt K mg) (m_Parts___getitem__ : GM P w K mg base 3 (CParts K) "__getitem__" P_Parts___getitem__ (spGetPart K)) (p_Part_life : PR P w K mg base (CPart K) "life" "p_life") :
    FnOk P w K mg base CX0 5 f fd P_Container_let_loose (spLetLoose K) := by
  refine okD F sc_Container_let_loose (fun vs H Q E h => ?_) (fun cdv A outer s H vs Q E hr h => ?_)
  · obtain ⟨_, _, _, _, _, _, rfl, _⟩ := h; rfl
  · obtain ⟨g, H0, A, S, W, o, rfl, c, ho, hz, q⟩ := h
    refine ⟨_, pss_one (ps_if (PW.pt (pw_and (pt_cmpR op_notN (pv 1) (pe_non) (nomark _)) (pw_and1 (pt_cmpR op_eq (pe_pr p_Part_life (hr.mono (by decide)) (pe_own_get m_Parts___getitem__ T.fk (hr.mono (by decide)) (pe_f (pv 0) T.c_Container T.n_Container_c_parts) (pe_f (pe_ix ix_list (pe_f (pv 0) T.c_Container T.n_Container_c_things) (pv 1) (fun _ _ => rfl)) T.c_Thing T.n_Thing_name))) (pe_gi T.i_USE) (nomark _)))))
      (pss_one (ps_expr (pe_bm PySem.F.plainAttrs_list PySem.F.slot_list_append PySem.F.type_list_append mt_append (pe_f (pv 0) T.c_Container T.n_Container_c_loose) (pa_cons (pv 1) pa_nil))))
      (pss_nil)), ?_⟩
    cases o with
    | none => exact ⟨_, rfl, rfl, _, rfl, iteF (q H c (Tups.refl H))⟩
    | some k =>
      obtain ⟨t, et, hn⟩ := ho k rfl
      obtain ⟨pr, hp⟩ := some_of hn
      obtain ⟨dx, gd, kvs, p⟩ := c.parts
      refine ⟨_, rfl, rfl, _, rfl, iteT ⟨_, rfl, _, _, _, _, rfl, c.self, lk_Container_c_parts, _, rfl, _, _, _, _, rfl, c.self, lk_Container_c_things, _, rfl, _, _, _, _, rfl, rfl, SqL.of c.things, c.sthing et, _, _, _, _, rfl, c.thing et, lk_Thing_name, _, _, _, rfl, p.self, g.pa, g.M, dx, gd, kvs, t.name, pr, rfl, p, hp, fun v hv => ?_⟩⟩
      obtain ⟨a, dxa, tw, ws, rfl, ha, _, _⟩ := hv
      refine ⟨_, _, _, _, rfl, ha, lk_Part_p_life, rfl, _, rfl, ?_⟩
      have en : S.tname k = t.name := by unfold Cor.tname; rw [et]
      have el : g.M.life (S.tname k) = pr.life := by rw [en, life_of hp]
      refine ite2 (fun h => ?_) (fun h => ?_)
      · have h : pr.life = -1 := by have := of_decide_eq_true h; simpa using this
        have e1 : letLoose g S (some k) = S.addL k := by show (if _ then _ else _) = _; rw [el, if_pos h]
        rw [e1] at q hz
        have hl : (S.loose.map fun n => V.int (n : Nat)).length < sizeLine := by
          rw [List.length_map]
          refine Nat.lt_of_le_of_lt ?_ BIG_lt
          unfold sz Cor.addL at hz
          simp only [List.length_append, List.length_singleton] at hz
          omega
        exact ⟨_, rfl, _, _, _, _, rfl, c.self, lk_Container_c_loose, .inl ⟨rfl, _, SqL.of c.loose⟩, _, rfl, _, _, _, rfl, rfl, c.loose, hl, q _ c.wLoose (c.tups .loose rfl True.intro)⟩
      · have h : ¬ pr.life = -1 := fun z => h (decide_eq_true (by rw [z]))
        have e1 : letLoose g S (some k) = S := by show (if _ then _ else _) = _; rw [el, if_neg h]
        rw [e1] at q
        exact q H c (Tups.refl H)
end
end K94
set_option maxHeartbeats 4000000
/-! making scopes and things; the place of a part -/
namespace K94
open PySem PySem.Spec PyProof.Rows L2
theorem upd_comm {H : Hp} {a b : Addr} {o u : HO} (h : a ≠ b) : upd (upd H a o) b u = upd (upd H b u) a o := by
  funext c
  unfold upd
  by_cases q : c = b
  · rw [if_pos q, if_neg fun z => h (z.symm.trans q), if_pos q]
  · rw [if_neg q]
    by_cases r : c = a
    · rw [if_pos r, if_pos r]
    · rw [if_neg r, if_neg r, if_neg q]
section
variable {P : Program} {w : World} {K : PySem.W.Frag} {mg : Str → Option Value} {base : Heap} {f : Addr} {fd : FuncData}

def spScopeInit (K : PySem.W.Frag) : Sp := fun vs H Q _ => ∃ x dx a b, vs = [.ref x, a, b] ∧ H x = some (.ins (CScope K) dx []) ∧ Q .non (upd H x (.ins (CScope K) dx (fsScope a b (.bl true))))
theorem ok_Scope___init__ (F : FnP K "__init__" "Scope.__init__" s_Scope___init__ f fd) (T : Txt K mg) : FnOk P w K mg base CX0 1 f fd P_Scope___init__ (spScopeInit K) := by
  refine okD F sc_Scope___init__ (fun vs H Q E h => ?_) (fun cdv A outer s H vs Q E hr h => ?_)
  · obtain ⟨_, _, _, _, rfl, _⟩ := h; rfl
  · obtain ⟨x, dx, a, b, rfl, hx, q⟩ := h
    refine ⟨_, pss_cons (ps_f (pv 0) (pv 1) T.c_Scope T.n_Scope_level)
    (pss_cons (ps_f (pv 0) (pv 2) T.c_Scope T.n_Scope_under)
    (pss_one (ps_f (pv 0) (pe_bl) T.c_Scope T.n_Scope_alive))), ?_⟩
    refine ⟨_, rfl, _, rfl, _, _, _, rfl, hx, ln_Scope_0, _, rfl, _, rfl, _, _, _, rfl, upd_same, ln_Scope_1, _, rfl, _, _, _, rfl, upd_same, ln_Scope_2, ?_⟩
    rw [upd_upd, upd_upd, mk_Scope]
    exact q

def spThingInit (K : PySem.W.Frag) : Sp := fun vs H Q _ => ∃ x dx a b, vs = [.ref x, a, b] ∧ H x = some (.ins (CThing K) dx []) ∧ ∀ l, H l = none → Q .non (upd (upd H l (.lst [])) x (.ins (CThing K) dx (fsThing a b (.ref l) (.bl false))))
theorem ok_Thing___init__ (F : FnP K "__init__" "Thing.__init__" s_Thing___init__ f fd) (T : Txt K mg) : FnOk P w K mg base CX0 1 f fd P_Thing___init__ (spThingInit K) := by
  refine okD F sc_Thing___init__ (fun vs H Q E h => ?_) (fun cdv A outer s H vs Q E hr h => ?_)
  · obtain ⟨_, _, _, _, rfl, _⟩ := h; rfl
  · obtain ⟨x, dx, a, b, rfl, hx, q⟩ := h
    refine ⟨_, pss_cons (ps_f (pv 0) (pv 1) T.c_Thing T.n_Thing_name)
    (pss_cons (ps_f (pv 0) (pv 2) T.c_Thing T.n_Thing_home)
    (pss_cons (ps_f (pv 0) (pe_lst (pa_nil)) T.c_Thing T.n_Thing_got)
    (pss_one (ps_f (pv 0) (pe_bl) T.c_Thing T.n_Thing_ended)))), ?_⟩
    refine ⟨_, rfl, _, rfl, _, _, _, rfl, hx, ln_Thing_0, _, rfl, _, rfl, _, _, _, rfl, upd_same, ln_Thing_1, Nat.zero_le _, fun l hl => ?_⟩
    have nlx : l ≠ x := fun z => by rw [z, upd_same] at hl; cases hl
    have hl0 : H l = none := by rw [upd_ne nlx, upd_ne nlx] at hl; exact hl
    refine ⟨_, rfl, _, _, _, rfl, (by rw [upd_ne (Ne.symm nlx), upd_same]), ln_Thing_2, _, rfl, _, _, _, rfl, upd_same, ln_Thing_3, ?_⟩
    rw [upd_upd, upd_upd, upd_comm (Ne.symm nlx), upd_upd, mk_Thing]
    exact q l hl0

def spPlaceOf (K : PySem.W.Frag) : Sp := fun vs H Q _ => ∃ g H0 A S W n s x, vs = [.ref (A.a .self), .str n, .int (s : Nat)] ∧ Ctr K g H0 H A S W ∧ ScOk g.M.depth S.scopes ∧ S.scopes[s]? = some x ∧ (g.M.get n).isSome = true ∧ 0 ≤ g.M.life n ∧ Q (oV (placeOf g S.scopes n s)) H
theorem ok_place_of (F : FnP K "place_of" "Container.place_of" s_Container_place_of f fd) (T : Txt K mg) (m_Parts___getitem__ : GM P w K mg base 3 (CParts K) "__getitem__" P_Parts___getitem__ (spGetPart K)) (p_Part_life : PR P w K mg base (CPart K) "life" "p_life")
    (m_Container_ancestor : GM P w K mg base 1 (CContainer K) "ancestor" P_Container_ancestor (spAncestor K)) (p_Book_lifted : PR P w K mg base (CBook K) "lifted" "b_lifted") : FnOk P w K mg base CX0 5 f fd P_Container_place_of (spPlaceOf K) := by
  refine okD F sc_Container_place_of (fun vs H Q E h => ?_) (fun cdv A outer s H vs Q E hr h => ?_)
  · obtain ⟨_, _, _, _, _, _, _, _, rfl, _⟩ := h; rfl
  · obtain ⟨g, H0, A, S, W, n, s, x, rfl, c, ok, e, hn, hk, q⟩ := h
    have nd := sc_Container_place_of.nd
    obtain ⟨pr, hp⟩ := some_of hn
    obtain ⟨dx, gd, kvs, p⟩ := c.parts
    obtain ⟨dxb, tb, b⟩ := c.book
    have el := life_of hp
    refine ⟨_, pss_cons (ps_set (i := 3) nd rfl (Or.inl rfl) (pe_pr p_Part_life (hr.mono (by decide)) (pe_own_get m_Parts___getitem__ T.fk (hr.mono (by decide)) (pe_f (pv 0) T.c_Container T.n_Container_c_parts) (pv 1))))
    (pss_cons (ps_if (pt_cmpR op_ge (pe_f (pe_dget (hu_of hr) (pe_f (pv 0) T.c_Container T.n_Container_c_scopes) (pv 2) (fun _ _ => rfl)) T.c_Scope T.n_Scope_level) (pv 3) (nomark _))
      (pss_one (ps_ret (pe_m m_Container_ancestor (hr.mono (by decide)) (pv 0) (pa_cons (pv 2) (pa_cons (pv 3) pa_nil)))))
      (pss_nil))
    (pss_one (ps_ret (pe_ifExp (pt_cmpR op_eq (pe_pr p_Book_lifted (hr.mono (by decide)) (pe_f (pv 0) T.c_Container T.n_Container_c_book)) (pe_str) (nomark _)) (pv 2) (pe_non))))), ?_⟩
    refine ⟨_, rfl, _, _, _, _, rfl, c.self, lk_Container_c_parts, _, rfl, _, _, _, rfl, p.self, g.pa, g.M, dx, gd, kvs, n, pr, rfl, p, hp, fun v hv => ?_⟩
    obtain ⟨a, dxa, tw, ws, rfl, ha, _, _⟩ := hv
    refine ⟨_, _, _, _, rfl, ha, lk_Part_p_life, _, rfl, _, _, _, _, rfl, c.self, lk_Container_c_scopes, _, rfl, _, _, rfl, c.dscope e, _, _, _, _, rfl, c.scope e, lk_Scope_level, _, rfl, _, _, rfl, rfl, _, rfl, ?_⟩
    refine ite2 (fun h => ?_) (fun h => ?_)
    · have h : pr.life ≤ (x.level : Int) := of_decide_eq_true h
      refine ⟨_, rfl, _, _, _, rfl, c.self, no_Container_ancestor, _, rfl, _, rfl, g, H0, A, S, W, s, pr.life, x, rfl, c, ok, e, by rw [← el]; exact hk, ?_⟩
      have e1 : placeOf g S.scopes n s = some (anc S.scopes s pr.life) := by unfold placeOf; rw [lvl_of e, el, if_pos h]
      rw [e1] at q
      exact q
    · have h : ¬ (x.level : Int) ≥ pr.life := fun z => h (decide_eq_true z)
      refine ⟨_, rfl, _, _, _, _, rfl, c.self, lk_Container_c_book, _, _, _, _, rfl, b.self, lk_Book_b_lifted, rfl, _, rfl, ?_⟩
      refine ite2 (fun h2 => ?_) (fun h2 => ?_)
      · have h2 : g.bk.lifted = "kept" := by have := of_decide_eq_true h2; simpa using this
        have e1 : placeOf g S.scopes n s = some s := by unfold placeOf; rw [lvl_of e, el, if_neg h, if_pos h2]
        rw [e1] at q
        exact ⟨_, rfl, q⟩
      · have h2 : ¬ g.bk.lifted = "kept" := fun z => h2 (decide_eq_true (by rw [z]))
        have e1 : placeOf g S.scopes n s = none := by unfold placeOf; rw [lvl_of e, el, if_neg h, if_neg h2]
        rw [e1] at q
        exact q

/-- the addresses stay, of what stood -/
def inR (n m : Nat) : Rl → Prop
  | .thing i => i < n
  | .got i => i < n
  | .scope i => i < m
  | _ => True
def AdLe (S : Cor) (A A' : Ad) : Prop := ∀ r, inR S.things.length S.scopes.length r → A'.a r = A.a r
theorem AdLe.refl (S : Cor) (A : Ad) : AdLe S A A := fun _ _ => rfl
theorem AdLe.trans {S S1 : Cor} {A A1 A2 : Ad} (a : AdLe S A A1) (b : AdLe S1 A1 A2) (h1 : S.things.length ≤ S1.things.length) (h2 : S.scopes.length ≤ S1.scopes.length) : AdLe S A A2 := fun r hr => by
  refine (b r ?_).trans (a r hr)
  cases r with
  | thing i => exact Nat.lt_of_lt_of_le hr h1
  | got i => exact Nat.lt_of_lt_of_le hr h1
  | scope i => exact Nat.lt_of_lt_of_le hr h2
  | _ => exact True.intro
theorem AdLe.self {S : Cor} {A A' : Ad} (a : AdLe S A A') : A'.a .self = A.a .self := a .self True.intro

def spOpened (K : PySem.W.Frag) : Sp := fun vs H Q _ => ∃ g H0 A S W s x, vs = [.ref (A.a .self), .int (s : Nat)] ∧ Ctr K g H0 H A S W ∧ S.scopes[s]? = some x ∧ S.scopes.length ≤ 1000 ∧ ∀ A' H', Ctr K g H0 H' A' (S.opened s) W → AdLe S A A' → Tups H H' → Q (.int (S.scopes.length : Nat)) H'
theorem ok_opened (F : FnP K "opened" "Container.opened" s_Container_opened f fd) (T : Txt K mg) (k_Scope : GC P w K mg base 1 "Scope" (CScope K) P_Scope___init__ (spScopeInit K)) : FnOk P w K mg base CX0 3 f fd P_Container_opened (spOpened K) := by
  refine okD F sc_Container_opened (fun vs H Q E h => ?_) (fun cdv A outer s H vs Q E hr h => ?_)
  · obtain ⟨_, _, _, _, _, _, _, rfl, _⟩ := h; rfl
  · obtain ⟨g, H0, A, S, W, s, x, rfl, c, e, hz, q⟩ := h
    have nd := sc_Container_opened.nd
    refine ⟨_, pss_cons (ps_set (i := 2) nd rfl (Or.inl rfl) (pe_callB call_lenD (by rfl) T.f_len (by decide +kernel) (pa_cons (pe_f (pv 0) T.c_Container T.n_Container_c_scopes) pa_nil)))
    (pss_cons (ps_dput (hu_of hr) (pe_f (pv 0) T.c_Container T.n_Container_c_scopes) (pv 2) (pe_c k_Scope (hr.mono (by decide)) (pa_cons (pe_op op_add (pe_f (pe_dget (hu_of hr) (pe_f (pv 0) T.c_Container T.n_Container_c_scopes) (pv 1) (fun _ _ => rfl)) T.c_Scope T.n_Scope_level) (pe_int)) (pa_cons (pv 1) pa_nil))) rfl)
    (pss_one (ps_ret (pv 2)))), ?_⟩
    refine ⟨_, rfl, _, _, _, _, rfl, c.self, lk_Container_c_scopes, _, _, rfl, c.scopes, ?_⟩
    refine ⟨_, rfl, _, _, _, _, rfl, c.self, lk_Container_c_scopes, _, rfl, _, _, rfl, c.dscope e, _, _, _, _, rfl, c.scope e, lk_Scope_level, _, _, rfl, rfl, _, rfl, ?_⟩
    intro y dy ny ndy hne
    refine ⟨y, dy, _, _, rfl, upd_same, rfl, ?_⟩
    rw [upd_upd]
    have sm : Same H (upd (upd H dy (.own y)) y (.ins (CScope K) dy (fsScope (.int ((x.level : Int) + 1)) (.int (s : Nat)) (.bl true)))) := (Same.new ndy).trans (Same.new (by rw [upd_ne (Ne.symm hne)]; exact ny))
    have c1 := c.grow sm
    refine ⟨_, rfl, _, _, _, _, rfl, c1.self, lk_Container_c_scopes, _, rfl, _, _, rfl, DPut.k (k := Sum.inl ((scDict A S.scopes.length).length : Int)) c1.scopes (by rw [scDict_len]; exact small1000 hz), ?_⟩
    rw [scDict_len, scDict_put]
    refine ⟨_, rfl, ?_⟩
    have c2 := c.wNewScope sm (z := ⟨lvl S.scopes s + 1, some s, true⟩) (dx := dy) ny (by rw [upd_same, lvl_of e]; rfl)
    refine q _ _ c2 (fun r hr => ?_) ((Same.tups sm).trans (c1.tups .scopes rfl True.intro))
    refine setA_ne fun z => ?_
    rw [z] at hr
    exact absurd hr (Nat.lt_irrefl _)
end
end K94
set_option maxHeartbeats 4000000
/-! asking: wanted, make, get -/
namespace K94
open PySem PySem.Spec PyProof.Rows L2 StX
theorem Paired.get {α β : Type} {F : α → β → Prop} : ∀ {l₁ : List α} {l₂ : List β} {i : Nat} {x : α}, Paired F l₁ l₂ → l₁[i]? = some x → ∃ y, l₂[i]? = some y ∧ F x y
  | _, _, _, _, .nil, e => by simp at e
  | _, _, 0, _, .cons r _, e => by simp at e; subst e; exact ⟨_, rfl, r⟩
  | _, _, i + 1, _, .cons _ t, e => by
    obtain ⟨y, h1, h2⟩ := Paired.get (i := i) t (by simpa using e)
    exact ⟨y, by simpa using h1, h2⟩
theorem sline {n : Nat} (h : n ≤ BIG) : n < sizeLine := Nat.lt_of_le_of_lt h BIG_lt
theorem pathSnoc {H : Hp} {a : Addr} {p : List Str} {n : Str} (h : H a = some (.tup (p.map V.str ++ [V.str n]))) : PathAt H a (p ++ [n]) := by
  unfold PathAt
  rw [h, List.map_append]
  rfl
theorem ite_var {σ : L2.St} {i j : Nat} {a b : V} {Q : VK} {H : Hp} {c c' : Prop} [Decidable c] [Decidable c'] (hc : c ↔ c') (ha : σ[i]? = some (some a)) (hb : σ[j]? = some (some b)) (h : Q (if c' then a else b) H) : if decide c = true then tVar i σ H Q else tVar j σ H Q := by
  by_cases q : c
  · rw [if_pos (hc.mp q)] at h
    rw [decide_eq_true q]
    exact iteT ⟨a, ha, h⟩
  · rw [if_neg fun z => q (hc.mpr z)] at h
    rw [decide_eq_false q]
    exact iteF ⟨b, hb, h⟩
theorem str_iff {a b : Str} : V.str a = V.str b ↔ a = b := ⟨fun h => by injection h, fun h => by rw [h]⟩
theorem int_iff {a b : Int} : V.int a = V.int b ↔ a = b := ⟨fun h => by injection h, fun h => by rw [h]⟩
structure GetPre (g : Gam) (S : Cor) (n : Str) (s req : Nat) : Prop where
  ok : ScOk g.M.depth S.scopes
  sx : ∃ x, S.scopes[s]? = some x
  rx : ∃ y, S.scopes[req]? = some y ∧ y.alive = true
  hn : (g.M.get n).isSome = true
theorem wantedG_eq {get : GetF} {S S1 : Cor} {k : Nat} {n : Str} {src req : Nat} {p : List Str} {o : Option Nat} (e : get S n src req (p ++ [n]) = (S1, o)) :
    wantedG get S k n src req p = (miss S1 k (p ++ [n]) o, o) := by unfold wantedG; rw [e]
section
variable {P : Program} {w : World} {K : PySem.W.Frag} {mg : Str → Option Value} {base : Heap} {f : Addr} {fd : FuncData}

def spGet (K : PySem.W.Frag) (r : Nat) : Sp := fun vs H Q _ => ∃ g H0 A S W n s req pa p, vs = [.ref (A.a .self), .str n, .int (s : Nat), .int (req : Nat), .ref pa] ∧ Ctr K g H0 H A S W ∧ PathAt H pa p ∧ GetPre g S n s req ∧ g.M.rk n < r ∧ p.length + r ≤ 100 ∧ sz (getF g r S n s req p).1 ≤ BIG ∧
  ∀ A' H', Ctr K g H0 H' A' (getF g r S n s req p).1 W → AdLe S A A' → Tups H H' → Q (oV (getF g r S n s req p).2) H'
def spMake (K : PySem.W.Frag) (r : Nat) : Sp := fun vs H Q _ => ∃ g H0 A S W n s req pa p, vs = [.ref (A.a .self), .str n, .int (s : Nat), .int (req : Nat), .ref pa] ∧ Ctr K g H0 H A S W ∧ PathAt H pa p ∧ GetPre g S n s req ∧ g.M.rk n < r + 1 ∧ p.length + r + 1 ≤ 100 ∧ sz (makeG g (getF g r) S n s req p) ≤ BIG ∧
  ∀ A' H', Ctr K g H0 H' A' (makeG g (getF g r) S n s req p) W → AdLe S A A' → Tups H H' → Q (.int (S.things.length : Nat)) H'
def spWanted (K : PySem.W.Frag) (r : Nat) : Sp := fun vs H Q _ => ∃ g H0 A S W k n s req pa p, vs = [.ref (A.a .self), .int (k : Nat), .str n, .int (s : Nat), .int (req : Nat), .ref pa] ∧ Ctr K g H0 H A S W ∧ PathAt H pa p ∧ GetPre g S n s req ∧ g.M.rk n < r ∧ p.length + r + 1 ≤ 100 ∧ sz (wantedG (getF g r) S k n s req p).1 ≤ BIG ∧
  ∀ A' H', Ctr K g H0 H' A' (wantedG (getF g r) S k n s req p).1 W → AdLe S A A' → Tups H H' → Q (oV (wantedG (getF g r) S k n s req p).2) H'

theorem ok_wanted {k r : Nat} (F : FnP K "wanted" "Container.wanted" s_Container_wanted f fd) (T : Txt K mg) (m_Container_get : GM P w K mg base k (CContainer K) "get" P_Container_get (spGet K r)) : FnOk P w K mg base CX0 (k + 1) f fd P_Container_wanted (spWanted K r) := by
  refine okD F sc_Container_wanted (fun vs H Q E h => ?_) (fun cdv A outer s H vs Q E hr h => ?_)
  · obtain ⟨_, _, _, _, _, _, _, _, _, _, _, rfl, _⟩ := h; rfl
  · obtain ⟨g, H0, A, S, W, kk, n, sc, req, pa, p, rfl, c, hp, pre, hrk, hl, hz, q⟩ := h
    have nd := sc_Container_wanted.nd
    refine ⟨_, pss_cons (ps_set (i := 6) nd rfl (Or.inl rfl) (pe_m m_Container_get hr (pv 0) (pa_cons (pv 2) (pa_cons (pv 3) (pa_cons (pv 4) (pa_cons (pe_tup (pa_star (pv 5) (pa_cons (pv 2) pa_nil))) pa_nil))))))
    (pss_cons (ps_if (pt_cmpR op_isN (pv 6) (pe_non) (nomark _))
      (pss_one (ps_expr (pe_bm PySem.F.plainAttrs_list PySem.F.slot_list_append PySem.F.type_list_append mt_append (pe_f (pv 0) T.c_Container T.n_Container_c_faults) (pa_cons (pe_tup (pa_cons (pe_f (pv 0) T.c_Container T.n_Container_c_deeds) (pa_cons (pe_str) (pa_cons (pv 1) (pa_cons (pe_tup (pa_star (pv 5) (pa_cons (pv 2) pa_nil))) pa_nil))))) pa_nil))))
      (pss_nil))
    (pss_one (ps_ret (pv 6)))), ?_⟩
    have ln : (p.map V.str ++ [V.str n]).length ≤ sizeLine := by
      rw [List.length_append, List.length_map, List.length_singleton, sizeLine_eq]
      omega
    refine ⟨_, rfl, _, _, _, rfl, c.self, no_Container_get, _, rfl, _, rfl, _, rfl, _, rfl, _, _, rfl, .inl (SqT.of hp), _, rfl, ln, fun t ht => ?_⟩
    have sm : Same H (upd H t (.tup (p.map V.str ++ [V.str n]))) := Same.new ht
    rcases e : getF g r S n sc req (p ++ [n]) with ⟨S1, o⟩
    have gr : Grow S S1 := by have h := get_grow g r S n sc req (p ++ [n]); rw [e] at h; exact h
    have ew := wantedG_eq (k := kk) e
    rw [ew] at hz q
    have hz1 : sz S1 ≤ BIG := by
      cases o with
      | none => exact Nat.le_trans (grow_fault S1 "missing" kk (p ++ [n])).sz hz
      | some _ => exact hz
    refine ⟨g, H0, A, S, W, n, sc, req, t, p ++ [n], rfl, c.grow sm, pathSnoc upd_same, pre, hrk, by rw [List.length_append, List.length_singleton]; omega, by rw [e]; exact hz1, fun A' H' c' ad tu => ?_⟩
    rw [e] at c' ⊢
    replace c' : Ctr K g H0 H' A' S1 W := c'
    have tu0 : Tups H H' := (Same.tups sm).trans tu
    refine ⟨_, rfl, rfl, _, rfl, ?_⟩
    cases o with
    | some j => exact iteF ⟨_, rfl, q A' H' c' ad tu0⟩
    | none =>
      have hs := c'.self
      rw [ad.self] at hs
      refine iteT ⟨_, rfl, _, _, _, _, rfl, hs, lk_Container_c_faults, .inl ⟨rfl, _, SqL.of c'.faults⟩, _, rfl, _, _, _, _, rfl, hs, lk_Container_c_deeds, _, rfl, _, rfl, _, _, rfl, .inl (SqT.of (tu0 _ _ hp)), _, rfl, ln, fun t2 ht2 => ?_⟩
      refine ⟨by show 4 ≤ sizeLine; rw [sizeLine_eq]; decide, fun t3 ht3 => ?_⟩
      have sm2 : Same H' (upd H' t2 (.tup (p.map V.str ++ [V.str n]))) := Same.new ht2
      have sm3 := sm2.trans (Same.new (o := .tup [.int A'.dn, .str "missing", .int (kk : Nat), .ref t2]) ht3)
      have c3 := c'.grow sm3
      have hf : FaultAt (upd (upd H' t2 (.tup (p.map V.str ++ [V.str n]))) t3 (.tup [.int A'.dn, .str "missing", .int (kk : Nat), .ref t2])) (.ref t3) ("missing", kk, p ++ [n]) :=
        ⟨t3, A'.dn, t2, rfl, upd_same, pathSnoc ((Same.new ht3) _ _ upd_same)⟩
      have hl2 : A'.fv.length < sizeLine := by
        rw [Paired.length c'.fts]
        refine sline (Nat.le_trans ?_ hz1)
        unfold sz
        omega
      refine ⟨_, _, _, rfl, rfl, c3.faults, hl2, _, rfl, ?_⟩
      exact q _ _ (c3.wFault hf) ad ((tu0.trans (Same.tups sm3)).trans (c3.tups .faults rfl True.intro))

theorem fold_sz {S : Cor} {k src req : Nat} {p : List Str} {get : GetF} (hg : ∀ S n s r p, Grow S (get S n s r p).1) (l : List (Bool × Str)) (i : Nat) : sz ((l.take i).foldl (makeStep get k src req p) S) ≤ sz (l.foldl (makeStep get k src req p) S) := by
  rw [foldl_take l S i]
  exact (foldl_keep (P := GrowB k) (GrowB.refl k) (fun _ _ _ => GrowB.trans) (makeStep_b hg k src req p) _ _).sz
theorem fold_b {S : Cor} {k src req : Nat} {p : List Str} {get : GetF} (hg : ∀ S n s r p, Grow S (get S n s r p).1) (l : List (Bool × Str)) : GrowB k S (l.foldl (makeStep get k src req p) S) :=
  foldl_keep (P := GrowB k) (GrowB.refl k) (fun _ _ _ => GrowB.trans) (makeStep_b hg k src req p) _ _

theorem ok_make {k r : Nat} (hk : 10 ≤ k) (F : FnP K "make" "Container.make" s_Container_make f fd) (T : Txt K mg) (k_Thing : GC P w K mg base 1 "Thing" (CThing K) P_Thing___init__ (spThingInit K)) (p_Book_held : PR P w K mg base (CBook K) "held" "b_held")
    (m_Parts___getitem__ : GM P w K mg base 3 (CParts K) "__getitem__" P_Parts___getitem__ (spGetPart K)) (p_Part_wants : PR P w K mg base (CPart K) "wants" "p_wants") (m_Container_wanted : GM P w K mg base k (CContainer K) "wanted" P_Container_wanted (spWanted K r)) : FnOk P w K mg base CX0 (k + 1) f fd P_Container_make (spMake K r) := by
  refine okD F sc_Container_make (fun vs H Q E h => ?_) (fun cdv A outer s H vs Q E hr h => ?_)
  · obtain ⟨_, _, _, _, _, _, _, _, _, _, rfl, _⟩ := h; rfl
  · obtain ⟨g, H0, A, S, W, n, home, req, pa, p, rfl, c, hp, pre, hrk, hl, hz, q⟩ := h
    have nd := sc_Container_make.nd
    refine ⟨_, pss_cons (ps_par (i := 5) (j := 6) (by rfl) nd rfl rfl (by decide) rfl rfl (pa_cons (pe_callB call_len_seq (by rfl) T.f_len (by decide +kernel) (pa_cons (pe_f (pv 0) T.c_Container T.n_Container_c_things) pa_nil)) (pa_cons (pe_c k_Thing (hr.mono (by omega)) (pa_cons (pv 1) (pa_cons (pv 2) pa_nil))) pa_nil)) (by rfl))
    (pss_cons (ps_expr (pe_bm PySem.F.plainAttrs_list PySem.F.slot_list_append PySem.F.type_list_append mt_append (pe_f (pv 0) T.c_Container T.n_Container_c_things) (pa_cons (pv 6) pa_nil)))
    (pss_cons (ps_set (i := 7) nd rfl (Or.inl rfl) (pe_ifExp (pt_cmpR op_eq (pe_pr p_Book_held (hr.mono (by omega)) (pe_f (pv 0) T.c_Container T.n_Container_c_book)) (pe_str) (nomark _)) (pv 2) (pv 3)))
    (pss_cons (ps_for PassesOwn.never rfl (pi_tup (pe_pr p_Part_wants (hr.mono (by omega)) (pe_own_get m_Parts___getitem__ T.fk (hr.mono (by omega)) (pe_f (pv 0) T.c_Container T.n_Container_c_parts) (pv 1)))) (pg_tup rfl (pgs_cons (pg_name (i := 8) nd rfl (Or.inl rfl)) (pgs_cons (pg_name (i := 9) nd rfl (Or.inl rfl)) pgs_nil)))
      (pss_one (ps_if (pt_cmpR op_eq (pv 8) (pe_str) (nomark _))
        (pss_one (ps_expr (pe_bm PySem.F.plainAttrs_list PySem.F.slot_list_append PySem.F.type_list_append mt_append (pe_f (pv 6) T.c_Thing T.n_Thing_got) (pa_cons (pe_m m_Container_wanted hr (pv 0) (pa_cons (pv 5) (pa_cons (pv 9) (pa_cons (pv 7) (pa_cons (pv 3) (pa_cons (pv 4) pa_nil)))))) pa_nil))))
        (pss_nil))))
    (pss_one (ps_ret (pv 5)))))), ?_⟩
    -- number, thing = len(..), Thing(..)
    refine ⟨_, rfl, _, _, _, _, rfl, c.self, lk_Container_c_things, _, _, rfl, .inl (SqL.of c.things), _, rfl, _, rfl, ?_⟩
    intro x dx nx ndx hne
    refine ⟨x, dx, _, _, rfl, upd_same, fun l hl0 => ⟨rfl, ?_⟩⟩
    have nlx : l ≠ x := fun z => by rw [z, upd_same] at hl0; cases hl0
    have nldx : l ≠ dx := fun z => by rw [z, upd_ne hne, upd_same] at hl0; cases hl0
    have hlH : H l = none := by rw [upd_ne nlx, upd_ne nldx] at hl0; exact hl0
    generalize hH1 : upd (upd (upd (upd H dx (.own x)) x (.ins (CThing K) dx [])) l (.lst [])) x (.ins (CThing K) dx (fsThing (.str n) (.int (home : Nat)) (.ref l) (.bl false))) = H1
    have sm : Same H H1 := fun b o e => by rw [← hH1, upd_ne (ne_of_none e nx), upd_ne (ne_of_none e hlH), upd_ne (ne_of_none e nx), upd_ne (ne_of_none e ndx)]; exact e
    have hx1 : H1 x = some (.ins (CThing K) dx (fsThing (.str n) (.int (home : Nat)) (.ref l) (.bl false))) := by rw [← hH1]; exact upd_same
    have hl1 : H1 l = some (.lst []) := by rw [← hH1, upd_ne nlx, upd_same]
    have c1 := c.grow sm
    rw [thRefs_len]
    refine ⟨_, _, rfl, ?_⟩
    -- self.c_things.append(thing)
    generalize hN : S.things.length = N
    have gr0 := make_grow (g := g) (get_grow g r) S n home req p
    have gb0 := make_b (g := g) (get_grow g r) S n home req p
    have hlt : (thRefs A N).length < sizeLine := by
      rw [thRefs_len, ← hN]
      refine sline (Nat.le_trans ?_ (Nat.le_trans gr0.sz hz))
      unfold sz
      omega
    have ct1 := c1.things
    rw [hN] at ct1
    refine ⟨_, rfl, _, _, _, _, rfl, c1.self, lk_Container_c_things, .inl ⟨rfl, _, SqL.of ct1⟩, _, rfl, _, _, _, rfl, rfl, ct1, hlt, ?_⟩
    have c2 := c.wNewThing sm nx hlH (Ne.symm nlx) hx1 hl1
    rw [hN] at c2
    have tu2 : Tups H (upd H1 (A.a .things) (.lst (thRefs A N ++ [.ref x]))) := (Same.tups sm).trans (c1.tups .things rfl True.intro)
    generalize hA1 : ({ A with a := setA (setA A.a (.thing N) x) (.got N) l, d := setA A.d (.thing N) dx } : Ad) = A1 at c2
    have ad1 : AdLe S A A1 := fun r hr => by
      rw [← hA1]
      show setA (setA A.a (.thing N) x) (.got N) l r = A.a r
      rw [setA_ne fun z => ?_, setA_ne fun z => ?_]
      · rw [z, hN] at hr; exact Nat.lt_irrefl _ hr
      · rw [z, hN] at hr; exact Nat.lt_irrefl _ hr
    have ax : A1.a (.thing N) = x := by rw [← hA1]; show setA (setA A.a (.thing N) x) (.got N) l (.thing N) = x; rw [setA_ne (by simp), setA_same]
    generalize upd H1 (A.a .things) (.lst (thRefs A N ++ [.ref x])) = H2 at c2 tu2 ⊢
    -- source = ..
    obtain ⟨dxb, tb, bk⟩ := c2.book
    obtain ⟨dxp, gd, kvs, pt⟩ := c2.parts
    obtain ⟨pr, hpr⟩ := some_of pre.hn
    have hs2 := c2.self
    rw [ad1.self] at hs2
    refine ⟨_, rfl, _, _, _, _, rfl, hs2, lk_Container_c_book, _, _, _, _, rfl, bk.self, lk_Book_b_held, rfl, _, rfl, ite_var str_iff rfl rfl ?_⟩
    generalize hsrc : (if g.bk.held = "home" then home else req) = src
    have ev : (if g.bk.held = "home" then V.int (home : Nat) else V.int (req : Nat)) = V.int (src : Nat) := by
      rw [← hsrc]
      split <;> rfl
    rw [ev]
    -- the loop
    refine ⟨_, rfl, _, _, _, _, rfl, hs2, lk_Container_c_parts, _, rfl, _, _, _, rfl, pt.self, g.pa, g.M, dxp, gd, kvs, n, pr, rfl, pt, hpr, fun v hv => ?_⟩
    obtain ⟨ap, dxa, tw, ws, rfl, hap, htw, hws⟩ := hv
    have ew : g.M.wants n = pr.wants := wants_of hpr
    have em : makeG g (getF g r) S n home req p = pr.wants.foldl (makeStep (getF g r) N src req p) (S.addT ⟨n, home, [], false⟩) := by
      unfold makeG
      rw [ew, hN, hsrc]
    rw [em] at hz q gb0
    have srcx : ∃ z, S.scopes[src]? = some z := by
      rw [← hsrc]
      split
      · exact pre.sx
      · obtain ⟨y, h, _⟩ := pre.rx; exact ⟨y, h⟩
    refine ⟨_, _, _, _, rfl, hap, lk_Part_p_wants, tw, rfl, ⟨ws, SqT.of htw⟩, for_tup (K := K) (a := tw) (xs := ws)
      (fun i σ H' => ∃ (A' : Ad) (v8 v9 : Option V), σ = [some (.ref (A.a .self)), some (.str n), some (.int (home : Nat)), some (.int (req : Nat)), some (.ref pa), some (.int (N : Nat)), some (.ref x), some (.int (src : Nat)), v8, v9] ∧
        Ctr K g H0 H' A' ((pr.wants.take i).foldl (makeStep (getF g r) N src req p) (S.addT ⟨n, home, [], false⟩)) W ∧ AdLe (S.addT ⟨n, home, [], false⟩) A1 A' ∧ Tups H2 H' ∧ ∃ gt, ((pr.wants.take i).foldl (makeStep (getF g r) N src req p) (S.addT ⟨n, home, [], false⟩)).things[N]? = some ⟨n, home, gt, false⟩ ∧ gt.length ≤ i)
      ⟨A1, none, none, rfl, c2, AdLe.refl _ _, Tups.refl _, [], by show (S.things ++ _)[N]? = _; rw [List.getElem?_append_right (by omega), hN, Nat.sub_self]; rfl, Nat.le_refl _⟩ (fun i σ H' _ ⟨_, _, _, _, _, _, tu, _⟩ => SqT.of (tu _ _ htw)) ?_ ?_⟩
    · rintro i xw σ H' hi ⟨A', v8, v9, rfl, c', ad', tu', gt, het, hgl⟩
      obtain ⟨wt, hwt, aw, rfl, haw⟩ := Paired.get hws hi
      generalize hSi : (pr.wants.take i).foldl (makeStep (getF g r) N src req p) (S.addT ⟨n, home, [], false⟩) = Si at c' het
      have gbi : GrowB N (S.addT ⟨n, home, [], false⟩) Si := by rw [← hSi]; exact fold_b (get_grow g r) _
      have stp := take_succ (f := makeStep (getF g r) N src req p) (b := S.addT ⟨n, home, [], false⟩) hwt
      rw [hSi] at stp
      have szi := fold_sz (S := S.addT ⟨n, home, [], false⟩) (k := N) (src := src) (req := req) (p := p) (get_grow g r) pr.wants (i + 1)
      rw [stp] at szi ⊢
      refine ⟨aw, _, rfl, SqT.of (tu' _ _ haw), rfl, _, _, rfl, _, _, rfl, rfl, ?_⟩
      refine ⟨_, rfl, rfl, _, rfl, ?_⟩
      cases hw1 : wt.1 with
      | false =>
        rw [decide_eq_false (show ¬ V.str (wayS false) = V.str "held" by decide +kernel)]
        have e1 : makeStep (getF g r) N src req p Si wt = Si := by unfold makeStep; rw [hw1]; rfl
        rw [e1]
        exact iteF ⟨A', _, _, rfl, c', ad', tu', gt, het, Nat.le_succ_of_le hgl⟩
      | true =>
        rw [decide_eq_true (show V.str (wayS true) = V.str "held" by rfl)]
        have e1 : makeStep (getF g r) N src req p Si wt = (wantedG (getF g r) Si N wt.2 src req p).1.addGot N (wantedG (getF g r) Si N wt.2 src req p).2 := by unfold makeStep; rw [hw1]; rfl
        rw [e1] at szi ⊢
        have hNl : inR (S.addT ⟨n, home, [], false⟩).things.length (S.addT ⟨n, home, [], false⟩).scopes.length (.thing N) := by
          show N < (S.things ++ _).length
          rw [List.length_append, List.length_singleton]
          omega
        have hx' := c'.thing het
        rw [ad' (.thing N) hNl, ax] at hx'
        have hs' := c'.self
        rw [ad'.self, ad1.self] at hs'
        have pre' : GetPre g Si wt.2 src req := by
          refine ⟨by rw [gbi.sc]; exact pre.ok, by rw [gbi.sc]; exact srcx, by rw [gbi.sc]; exact pre.rx, (c.st.mok.down n pr hpr wt (List.mem_of_getElem? hwt)).1⟩
        have rk' : g.M.rk wt.2 < r := Nat.lt_of_lt_of_le (c.st.mok.down n pr hpr wt (List.mem_of_getElem? hwt)).2 (Nat.le_of_lt_succ hrk)
        have gw := wanted_grow (get_grow g r) Si N wt.2 src req p
        rcases er : wantedG (getF g r) Si N wt.2 src req p with ⟨S2, o⟩
        rw [er] at szi gw
        have het2 := gw.get het
        have ea : S2.addGot N o = S2.setT N { (⟨n, home, gt, false⟩ : Thg) with got := gt ++ [o] } := by
          unfold Cor.addGot
          rw [het2]
        have hz2 : sz S2 ≤ BIG := Nat.le_trans (addGot_b S2 N o).sz (Nat.le_trans szi hz)
        refine iteT ⟨_, rfl, _, _, _, _, rfl, hx', lk_Thing_got, .inl ⟨rfl, _, SqL.of (c'.got het)⟩, _, rfl, _, _, _, rfl, hs', no_Container_wanted, _, rfl, _, rfl, _, rfl, _, rfl, _, rfl, ?_⟩
        refine ⟨g, H0, A', Si, W, N, wt.2, src, req, pa, p, by rw [ad'.self, ad1.self]; rfl, c', (tu2.trans tu') _ _ hp, pre', rk', hl, by rw [er]; exact hz2, fun A2 H3 c3 ad3 tu3 => ?_⟩
        rw [er] at c3 ⊢
        have hga : A2.a (.got N) = A'.a (.got N) := ad3 (.got N) (List.getElem?_eq_some_iff.mp het).1
        have hg3 := c3.got het2
        rw [hga] at hg3
        have hiw : i < pr.wants.length := (List.getElem?_eq_some_iff.mp hwt).1
        have hfew := c.st.mok.few n pr hpr
        have hrk5 := c.st.mok.rk5 n
        have hlen : (gt.map oV).length < sizeLine := by rw [List.length_map]; exact small1000 (by omega)
        refine ⟨_, _, _, rfl, rfl, hg3, hlen, ?_⟩
        have c4 := c3.wGot (o := o) het2
        rw [hga] at c4
        refine ⟨A2, _, _, rfl, ?_, ?_, ?_, gt ++ [o], ?_, ?_⟩
        · show Ctr K g H0 _ A2 (S2.addGot N o) W
          rw [ea]
          simpa using c4
        · exact ad'.trans ad3 gbi.len (by rw [gbi.sc]; exact Nat.le_refl _)
        · refine (tu'.trans tu3).trans ?_
          have := c3.tups (o2 := .lst (gt.map oV ++ [oV o])) (.got N) (o := .lst (gt.map oV)) (by show S2.things[N]?.map _ = _; rw [het2]; rfl) True.intro
          rw [hga] at this
          exact this
        · rw [ea]; exact set_here het2
        · rw [List.length_append, List.length_singleton]; omega
    · rintro σ H' ⟨A', v8, v9, rfl, c', ad', tu', _⟩
      rw [Paired.length hws, List.take_length] at c'
      rw [hN] at q
      refine ⟨_, rfl, q A' H' c' ?_ (tu2.trans tu')⟩
      exact ad1.trans ad' (by show _ ≤ (S.things ++ _).length; rw [List.length_append]; omega) (Nat.le_refl _)

theorem getF_succ (g : Gam) (f : Nat) (S : Cor) (n : Str) (s req : Nat) (p : List Str) : getF g (f + 1) S n s req p =
    if g.M.life n = -1 then (makeG g (getF g f) S n s req p, some S.things.length)
    else match placeOf g S.scopes n s with
      | none => (S, none)
      | some pl => match kget S.kept n pl with
        | some k => (S, some k)
        | none => ((makeG g (getF g f) S n pl req p).addK n pl S.things.length, some S.things.length) := rfl
theorem place_in {g : Gam} {sc : List Scp} {n : Str} {s pl : Nat} (ok : ScOk g.M.depth sc) (hs : ∃ x, sc[s]? = some x) (hl : 0 ≤ g.M.life n) (h : placeOf g sc n s = some pl) : ∃ x, sc[pl]? = some x := by
  unfold placeOf at h
  split at h
  · cases h
    obtain ⟨x, e⟩ := hs
    exact anc_in ok hl x.level s x rfl e
  · split at h
    · cases h; exact hs
    · cases h
theorem ok_get {k r : Nat} (hk : 10 ≤ k) (F : FnP K "get" "Container.get" s_Container_get f fd) (T : Txt K mg) (m_Parts___getitem__ : GM P w K mg base 3 (CParts K) "__getitem__" P_Parts___getitem__ (spGetPart K)) (p_Part_life : PR P w K mg base (CPart K) "life" "p_life")
    (m_Container_place_of : GM P w K mg base 5 (CContainer K) "place_of" P_Container_place_of (spPlaceOf K)) (m_Container_make : GM P w K mg base k (CContainer K) "make" P_Container_make (spMake K r)) : FnOk P w K mg base CX0 (k + 1) f fd P_Container_get (spGet K (r + 1)) := by
  refine okD F sc_Container_get (fun vs H Q E h => ?_) (fun cdv A outer s H vs Q E hr h => ?_)
  · obtain ⟨_, _, _, _, _, _, _, _, _, _, rfl, _⟩ := h; rfl
  · obtain ⟨g, H0, A, S, W, n, sc, req, pa, p, rfl, c, hp, pre, hrk, hl, hz, q⟩ := h
    have nd := sc_Container_get.nd
    refine ⟨_, pss_cons (ps_set (i := 5) nd rfl (Or.inl rfl) (pe_f (pe_dget (hu_of hr) (pe_f (pv 0) T.c_Container T.n_Container_c_scopes) (pv 3) (fun _ _ => rfl)) T.c_Scope T.n_Scope_alive))
    (pss_cons (ps_if (pt_cmpR op_eq (pe_pr p_Part_life (hr.mono (by omega)) (pe_own_get m_Parts___getitem__ T.fk (hr.mono (by omega)) (pe_f (pv 0) T.c_Container T.n_Container_c_parts) (pv 1))) (pe_gi T.i_USE) (nomark _))
      (pss_one (ps_ret (pe_ifExp (pt_val (pv 5)) (pe_m m_Container_make hr (pv 0) (pa_cons (pv 1) (pa_cons (pv 2) (pa_cons (pv 3) (pa_cons (pv 4) pa_nil))))) (pe_non))))
      (pss_nil))
    (pss_cons (ps_set (i := 6) nd rfl (Or.inl rfl) (pe_m m_Container_place_of (hr.mono (by omega)) (pv 0) (pa_cons (pv 1) (pa_cons (pv 2) pa_nil))))
    (pss_cons (ps_if (pt_cmpR op_isN (pv 6) (pe_non) (nomark _))
      (pss_one (ps_ret (pe_non)))
      (pss_nil))
    (pss_cons (ps_if (pt_not (pt_val (pv 5)))
      (pss_never)
      (pss_nil))
    (pss_cons (ps_if (pt_cmp (pc_dnotin (hu_of hr) (pe_tup (pa_cons (pv 1) (pa_cons (pv 6) pa_nil))) (pe_f (pv 0) T.c_Container T.n_Container_c_kept)))
      (pss_one (ps_dput (hu_of hr) (pe_f (pv 0) T.c_Container T.n_Container_c_kept) (pe_tup (pa_cons (pv 1) (pa_cons (pv 6) pa_nil))) (pe_m m_Container_make hr (pv 0) (pa_cons (pv 1) (pa_cons (pv 6) (pa_cons (pv 3) (pa_cons (pv 4) pa_nil))))) rfl))
      (pss_nil))
    (pss_one (ps_ret (pe_dget (hu_of hr) (pe_f (pv 0) T.c_Container T.n_Container_c_kept) (pe_tup (pa_cons (pv 1) (pa_cons (pv 6) pa_nil))) (fun _ _ => rfl))))))))), ?_⟩
    obtain ⟨dxp, gd, kvs, pt⟩ := c.parts
    obtain ⟨pr, hpr⟩ := some_of pre.hn
    have elf := life_of hpr
    have hlife := c.st.mok.life n pr hpr
    obtain ⟨y, hy, hya⟩ := pre.rx
    obtain ⟨xs, hxs⟩ := pre.sx
    refine ⟨_, rfl, _, _, _, _, rfl, c.self, lk_Container_c_scopes, _, rfl, _, _, rfl, c.dscope hy, _, _, _, _, rfl, c.scope hy, lk_Scope_alive, ?_⟩
    rw [hya]
    refine ⟨_, rfl, _, _, _, _, rfl, c.self, lk_Container_c_parts, _, rfl, _, _, _, rfl, pt.self, g.pa, g.M, dxp, gd, kvs, n, pr, rfl, pt, hpr, fun v hv => ?_⟩
    obtain ⟨ap, dxa, tw, ws, rfl, hap, _, _⟩ := hv
    refine ⟨_, _, _, _, rfl, hap, lk_Part_p_life, rfl, _, rfl, ?_⟩
    rw [getF_succ, elf] at hz q
    refine ite2 (fun h => ?_) (fun h => ?_)
    · have h : pr.life = -1 := int_iff.mp (of_decide_eq_true h)
      rw [if_pos h] at hz q
      exact ⟨_, rfl, _, rfl, iteT ⟨_, rfl, _, _, _, rfl, c.self, no_Container_make, _, rfl, _, rfl, _, rfl, _, rfl, g, H0, A, S, W, n, sc, req, pa, p, rfl, c, hp, pre, hrk, by omega, hz, fun A' H' c' ad tu => q A' H' c' ad tu⟩⟩
    · have h : ¬ pr.life = -1 := fun z => h (decide_eq_true (by rw [z]))
      rw [if_neg h] at hz q
      have hlf : 0 ≤ g.M.life n := by rw [elf]; omega
      refine ⟨_, rfl, _, _, _, rfl, c.self, no_Container_place_of, _, rfl, _, rfl, g, H0, A, S, W, n, sc, xs, rfl, c, pre.ok, hxs, pre.hn, hlf, ?_⟩
      refine ⟨_, rfl, rfl, _, rfl, ?_⟩
      cases ep : placeOf g S.scopes n sc with
      | none =>
        rw [ep] at q
        exact iteT (q A H c (AdLe.refl _ _) (Tups.refl H))
      | some pl =>
        rw [ep] at hz q
        dsimp only at hz q
        have hplx := place_in pre.ok pre.sx hlf ep
        refine iteF ⟨_, rfl, _, rfl, iteF ⟨_, rfl, _, rfl, by show 2 ≤ sizeLine; rw [sizeLine_eq]; decide, fun t ht => ?_⟩⟩
        have sm : Same H (upd H t (.tup [.str n, .int (pl : Nat)])) := Same.new ht
        have c1 := c.grow sm
        have kv := kget_val n pl S.kept
        refine ⟨_, rfl, _, _, _, _, rfl, c1.self, lk_Container_c_kept, _, _, rfl, DGet.t (k := [Sum.inr n, Sum.inl (pl : Int)]) c1.kept upd_same, _, rfl, ?_⟩
        rw [kv]
        -- behind the test
        have fin : ∀ (A2 : Ad) (S2 : Cor) (H2 : Hp) (kk : Nat), Ctr K g H0 H2 A2 S2 W → A2.a .self = A.a .self → kget S2.kept n pl = some kk → (∀ H3, Same H2 H3 → Q (.int (kk : Nat)) H3) →
            (tDGet (tPF (CContainer K) "c_kept" (tVar 0)) (tTup (tCons (tVar 1) (tCons (tVar 6) tNil)))) [some (.ref (A.a .self)), some (.str n), some (.int (sc : Nat)), some (.int (req : Nat)), some (.ref pa), some (.bl true), some (.int (pl : Nat))] H2 Q := by
          intro A2 S2 H2 kk c2 ea ek qq
          have hs2 := c2.self
          rw [ea] at hs2
          refine ⟨_, rfl, _, _, _, _, rfl, hs2, lk_Container_c_kept, _, rfl, _, rfl, by show 2 ≤ sizeLine; rw [sizeLine_eq]; decide, fun t2 ht2 => ?_⟩
          have sm2 : Same H2 (upd H2 t2 (.tup [.str n, .int (pl : Nat)])) := Same.new ht2
          have c3 := c2.grow sm2
          have kv2 := kget_val n pl S2.kept
          rw [ek] at kv2
          have dg := DGet.t (k := [Sum.inr n, Sum.inl (pl : Int)]) c3.kept (upd_same (H := H2) (a := t2) (o := .tup [.str n, .int (pl : Nat)]))
          rw [kv2] at dg
          exact ⟨_, _, rfl, dg, qq _ sm2⟩
        cases ek : kget S.kept n pl with
        | some kk =>
          rw [ek] at q
          refine iteF ?_
          exact fin A S _ kk c1 rfl ek fun H3 s3 => q A H3 (c1.grow s3) (AdLe.refl _ _) ((Same.tups sm).trans (Same.tups s3))
        | none =>
          rw [ek] at hz q
          have hz1 : sz (makeG g (getF g r) S n pl req p) ≤ BIG := Nat.le_trans (grow_addK _ n pl S.things.length).sz hz
          refine iteT ⟨_, rfl, _, _, _, rfl, c1.self, no_Container_make, _, rfl, _, rfl, _, rfl, _, rfl, ?_⟩
          refine ⟨g, H0, A, S, W, n, pl, req, pa, p, rfl, c1, (Same.tups sm) _ _ hp, ⟨pre.ok, hplx, pre.rx, pre.hn⟩, hrk, by omega, hz1, fun A2 H2 c2 ad2 tu2 => ?_⟩
          have hs2 := c2.self
          rw [ad2.self] at hs2
          refine ⟨_, rfl, _, _, _, _, rfl, hs2, lk_Container_c_kept, _, rfl, _, rfl, by show 2 ≤ sizeLine; rw [sizeLine_eq]; decide, fun t2 ht2 => ?_⟩
          have sm2 : Same H2 (upd H2 t2 (.tup [.str n, .int (pl : Nat)])) := Same.new ht2
          have c3 := c2.grow sm2
          have hkl : (kpDict (makeG g (getF g r) S n pl req p).kept).length < sizeLine := by
            unfold kpDict
            rw [List.length_map]
            refine sline (Nat.le_trans ?_ hz1)
            unfold sz
            omega
          refine ⟨_, _, rfl, DPut.t (k := [Sum.inr n, Sum.inl (pl : Int)]) c3.kept upd_same hkl, ?_⟩
          have c4 := c3.wKept (n := n) (pl := pl) (k := S.things.length)
          have ek4 : kget ((makeG g (getF g r) S n pl req p).addK n pl S.things.length).kept n pl = some S.things.length := by
            have z := kget_val n pl ((makeG g (getF g r) S n pl req p).addK n pl S.things.length).kept
            have e5 : kpDict ((makeG g (getF g r) S n pl req p).addK n pl S.things.length).kept = putK (kpDict (makeG g (getF g r) S n pl req p).kept) [Sum.inr n, Sum.inl (pl : Int)] (.int S.things.length) := kpDict_put _ _ _ _
            rw [e5, valV_put, if_pos rfl] at z
            cases eg : kget ((makeG g (getF g r) S n pl req p).addK n pl S.things.length).kept n pl with
            | none => rw [eg] at z; cases z
            | some j =>
              rw [eg] at z
              have z := Option.some.inj z
              injection z with z
              congr 1
              omega
          exact fin A2 _ _ S.things.length c4 ad2.self ek4 fun H3 s3 => q A2 H3 (c4.grow s3) ad2 (((((Same.tups sm).trans tu2).trans (Same.tups sm2)).trans (c3.tups .kept rfl True.intro)).trans (Same.tups s3))
end
end K94
set_option maxHeartbeats 4000000
/-! plain facts: what a whole container keeps -/
namespace K94
open PySem PySem.Spec PyProof.Rows L2

/-- things keep their names (and places) -/
def NmLe (T T' : List Thg) : Prop := ∀ (j : Nat) (t : Thg), T[j]? = some t → ∃ t' : Thg, T'[j]? = some t' ∧ t'.name = t.name
theorem NmLe.refl (T : List Thg) : NmLe T T := fun _ t h => ⟨t, h, rfl⟩
theorem NmLe.trans {T T1 T2 : List Thg} (a : NmLe T T1) (b : NmLe T1 T2) : NmLe T T2 := fun j t h => by
  obtain ⟨t1, h1, e1⟩ := a j t h
  obtain ⟨t2, h2, e2⟩ := b j t1 h1
  exact ⟨t2, h2, e2.trans e1⟩
theorem Grow.nm {S S' : Cor} (h : Grow S S') : NmLe S.things S'.things := fun j t e => ⟨t, h.get e, rfl⟩
theorem GrowB.nm {k : Nat} {S S' : Cor} (h : GrowB k S S') : NmLe S.things S'.things := fun j t e => by
  by_cases q : j = k
  · subst q
    obtain ⟨m, h1⟩ := h.me t e
    exact ⟨_, h1, rfl⟩
  · exact ⟨t, h.th j q t e, rfl⟩
def GotOk (T : List Thg) (o : Option Nat) (w : Bool × Str) : Prop := ∀ j : Nat, o = some j → ∃ t' : Thg, T[j]? = some t' ∧ t'.name = w.2
def heldW (M : PM) (n : Str) : List (Bool × Str) := (M.wants n).filter (·.1)
structure Comp (g : Gam) (T : List Thg) (t : Thg) : Prop where
  nm : (g.M.get t.name).isSome = true
  got : Paired (GotOk T) t.got (heldW g.M t.name)
theorem GotOk.mono {T T' : List Thg} (h : NmLe T T') {o : Option Nat} {w : Bool × Str} (q : GotOk T o w) : GotOk T' o w := fun j e => by
  obtain ⟨t, h1, h2⟩ := q j e
  obtain ⟨t', h3, h4⟩ := h j t h1
  exact ⟨t', h3, h4.trans h2⟩
theorem Comp.mono {g : Gam} {T T' : List Thg} (h : NmLe T T') {t : Thg} (c : Comp g T t) : Comp g T' t := ⟨c.nm, Paired.mono (fun _ _ q => q.mono h) c.got⟩
/-- whole but for the things under construction (B) -/
structure WFb (g : Gam) (B : Nat → Prop) (S : Cor) : Prop where
  th : ∀ (k : Nat) (t : Thg), ¬ B k → S.things[k]? = some t → Comp g S.things t
  kp : ∀ e ∈ S.kept, ∃ t : Thg, S.things[e.2]? = some t ∧ t.name = e.1.1
structure WF (g : Gam) (S : Cor) : Prop where
  ok : ScOk g.M.depth S.scopes
  b : WFb g (fun _ => False) S
  lo : ∀ n ∈ S.loose, n < S.things.length
theorem WF.th {g : Gam} {S : Cor} (h : WF g S) {k : Nat} {t : Thg} (e : S.things[k]? = some t) : Comp g S.things t := h.b.th k t (fun z => z) e
theorem kput_mem {l : List ((Str × Nat) × Nat)} {n : Str} {pl k : Nat} {e : (Str × Nat) × Nat} (h : e ∈ kput l n pl k) : e ∈ l ∨ e = ((n, pl), k) := by
  unfold kput at h
  split at h
  · obtain ⟨x, hx, rfl⟩ := List.mem_map.mp h
    split
    · rename_i q; right; rw [q]
    · left; exact hx
  · rcases List.mem_append.mp h with h | h
    · exact .inl h
    · exact .inr (List.mem_singleton.mp h)
theorem kget_mem {l : List ((Str × Nat) × Nat)} {n : Str} {pl k : Nat} (h : kget l n pl = some k) : ((n, pl), k) ∈ l := by
  unfold kget at h
  obtain ⟨e, he, rfl⟩ := Option.map_eq_some_iff.mp h
  have h1 := List.mem_of_find?_eq_some he
  have h2 := List.find?_some he
  have h3 : e.1 = (n, pl) := of_decide_eq_true h2
  obtain ⟨a, b⟩ := e
  cases h3
  exact h1
/-- the answer is a thing of the part that was asked -/
def Is (S : Cor) (o : Option Nat) (n : Str) : Prop := ∀ k : Nat, o = some k → ∃ t : Thg, S.things[k]? = some t ∧ t.name = n
/-- what the way of asking keeps -/
def Good (g : Gam) (get : GetF) : Prop := ∀ (B : Nat → Prop) (S : Cor) (n : Str) (s req : Nat) (p : List Str), (∀ k, B k → k < S.things.length) → (g.M.get n).isSome = true → WFb g B S → WFb g B (get S n s req p).1 ∧ Is (get S n s req p).1 (get S n s req p).2 n
theorem filter_take_succ {l : List (Bool × Str)} {i : Nat} {x : Bool × Str} (h : l[i]? = some x) : (l.take (i + 1)).filter (·.1) = (l.take i).filter (·.1) ++ (if x.1 = true then [x] else []) := by
  rw [List.take_add_one, h, List.filter_append]
  congr 1
  show List.filter _ [x] = _
  cases e : x.1 <;> simp [List.filter, e]
theorem make_wf {g : Gam} {get : GetF} (mok : g.M.Ok) (hg : ∀ S n s r p, Grow S (get S n s r p).1) (hG : Good g get) (B : Nat → Prop) (S : Cor) (n : Str) (home req : Nat) (p : List Str) (hB : ∀ k, B k → k < S.things.length) (hn : (g.M.get n).isSome = true) (wf : WFb g B S) :
    WFb g B (makeG g get S n home req p) ∧ Is (makeG g get S n home req p) (some S.things.length) n := by
  obtain ⟨pr, hpr⟩ := some_of hn
  have ew : g.M.wants n = pr.wants := wants_of hpr
  generalize hN : S.things.length = N
  generalize hsrc : (if g.bk.held = "home" then home else req) = src
  have e0 : makeG g get S n home req p = pr.wants.foldl (makeStep get N src req p) (S.addT ⟨n, home, [], false⟩) := by unfold makeG; rw [ew, hN, hsrc]
  have key : ∀ i, i ≤ pr.wants.length → ∀ Si, (pr.wants.take i).foldl (makeStep get N src req p) (S.addT ⟨n, home, [], false⟩) = Si →
      WFb g (fun k => B k ∨ k = N) Si ∧ N < Si.things.length ∧ ∃ gt, Si.things[N]? = some ⟨n, home, gt, false⟩ ∧ Paired (GotOk Si.things) gt ((pr.wants.take i).filter (·.1)) := by
    intro i
    induction i with
    | zero =>
      rintro - Si rfl
      have hl : (S.things ++ [(⟨n, home, [], false⟩ : Thg)])[N]? = some ⟨n, home, [], false⟩ := by rw [List.getElem?_append_right (by omega), hN, Nat.sub_self]; rfl
      have nm : NmLe S.things (S.things ++ [(⟨n, home, [], false⟩ : Thg)]) := (grow_addT S ⟨n, home, [], false⟩).nm
      refine ⟨⟨fun k t hk e => ?_, fun e he => ?_⟩, by show N < (S.things ++ _).length; rw [List.length_append, List.length_singleton]; omega, [], hl, .nil⟩
      · have hkN : k ≠ N := fun z => hk (.inr z)
        have e : (S.things ++ [_])[k]? = some t := e
        have hlt : k < S.things.length := by
          have := (List.getElem?_eq_some_iff.mp e).1
          rw [List.length_append, List.length_singleton] at this
          omega
        rw [List.getElem?_append_left hlt] at e
        exact (wf.th k t (fun z => hk (.inl z)) e).mono nm
      · obtain ⟨t, h1, h2⟩ := wf.kp e he
        obtain ⟨t', h3, h4⟩ := nm _ t h1
        exact ⟨t', h3, h4.trans h2⟩
    | succ i ih =>
      intro hi Si hSi
      obtain ⟨w, hw⟩ : ∃ w, pr.wants[i]? = some w := ⟨_, List.getElem?_eq_getElem (Nat.lt_of_succ_le hi)⟩
      obtain ⟨wf1, hN1, gt, ht, hp⟩ := ih (Nat.le_of_succ_le hi) _ rfl
      rw [take_succ hw] at hSi
      rw [filter_take_succ hw]
      generalize (pr.wants.take i).foldl (makeStep get N src req p) (S.addT ⟨n, home, [], false⟩) = S1 at hSi wf1 hN1 ht hp
      unfold makeStep at hSi
      cases hw1 : w.1 with
      | false =>
        rw [hw1] at hSi
        have hSi : S1 = Si := hSi
        subst hSi
        exact ⟨wf1, hN1, gt, ht, by simpa using hp⟩
      | true =>
        rw [hw1] at hSi
        have hSi : (wantedG get S1 N w.2 src req p).1.addGot N (wantedG get S1 N w.2 src req p).2 = Si := hSi
        have hd := mok.down n pr hpr w (List.mem_of_getElem? hw)
        have hg1 := hG (fun k => B k ∨ k = N) S1 w.2 src req (p ++ [w.2]) (fun k hk => by
          rcases hk with hk | hk
          · have h1 := hB k hk
            omega
          · omega) hd.1 wf1
        have gw := wanted_grow hg S1 N w.2 src req p
        -- the state behind wanted
        have wfw : WFb g (fun k => B k ∨ k = N) (wantedG get S1 N w.2 src req p).1 ∧ Is (wantedG get S1 N w.2 src req p).1 (wantedG get S1 N w.2 src req p).2 w.2 := by
          show WFb g _ (miss _ N _ (get S1 w.2 src req (p ++ [w.2])).2) ∧ Is (miss _ N _ (get S1 w.2 src req (p ++ [w.2])).2) (get S1 w.2 src req (p ++ [w.2])).2 w.2
          cases eo : (get S1 w.2 src req (p ++ [w.2])).2 with
          | none => exact ⟨⟨hg1.1.th, hg1.1.kp⟩, fun k z => nomatch z⟩
          | some j =>
            have h2 := hg1.2
            rw [eo] at h2
            exact ⟨hg1.1, h2⟩
        generalize wantedG get S1 N w.2 src req p = r at hSi gw wfw
        obtain ⟨S2, o⟩ := r
        have ht2 : S2.things[N]? = some ⟨n, home, gt, false⟩ := gw.get ht
        have ea : Si = S2.setT N ⟨n, home, gt ++ [o], false⟩ := by
          rw [← hSi]
          show S2.addGot N o = _
          unfold Cor.addGot
          rw [ht2]
        have ts : Si.things = S2.things.set N ⟨n, home, gt ++ [o], false⟩ := by rw [ea]; rfl
        have nm : NmLe S2.things Si.things := fun j t e => by
          rw [ts]
          by_cases q : j = N
          · subst q
            rw [ht2] at e
            cases e
            exact ⟨_, set_here ht2, rfl⟩
          · exact ⟨t, by rw [set_get q]; exact e, rfl⟩
        refine ⟨⟨fun k t hk e => ?_, fun e he => ?_⟩, by rw [ts, List.length_set]; exact (List.getElem?_eq_some_iff.mp ht2).1, gt ++ [o], by rw [ts]; exact set_here ht2, ?_⟩
        · have hkN : k ≠ N := fun z => hk (.inr z)
          rw [ts, set_get hkN] at e
          exact (wfw.1.th k t hk e).mono nm
        · have he : e ∈ S2.kept := by rw [ea] at he; exact he
          obtain ⟨t, h1, h2⟩ := wfw.1.kp e he
          obtain ⟨t', h3, h4⟩ := nm _ t h1
          exact ⟨t', h3, h4.trans h2⟩
        · rw [if_pos rfl]
          refine Paired.snoc ?_ (Paired.mono (fun _ _ q => q.mono (gw.nm.trans nm)) hp)
          intro j ej
          obtain ⟨t, h1, h2⟩ := wfw.2 j ej
          obtain ⟨t', h3, h4⟩ := nm j t h1
          exact ⟨t', h3, h4.trans h2⟩
  obtain ⟨wf1, hN1, gt, ht, hp⟩ := key pr.wants.length (Nat.le_refl _) _ rfl
  rw [List.take_length] at wf1 ht hp hN1
  rw [← e0] at wf1 ht hp hN1
  refine ⟨⟨fun k t hk e => ?_, wf1.kp⟩, fun k e => ?_⟩
  · by_cases q : k = N
    · subst q
      rw [ht] at e
      cases e
      refine ⟨hn, ?_⟩
      show Paired _ gt ((g.M.wants n).filter (·.1))
      rw [ew]
      exact hp
    · exact wf1.th k t (fun z => z.elim hk q) e
  · cases e
    exact ⟨_, ht, rfl⟩
theorem get_good {g : Gam} (mok : g.M.Ok) : ∀ f : Nat, Good g (getF g f)
  | 0 => fun B S n s req p hB hn wf => ⟨wf, fun k e => nomatch e⟩
  | f + 1 => fun B S n s req p hB hn wf => by
    have hm := fun (pl : Nat) => make_wf mok (get_grow g f) (get_good mok f) B S n pl req p hB hn wf
    rw [getF_succ]
    split
    · exact hm s
    · split
      · exact ⟨wf, fun k e => nomatch e⟩
      · rename_i pl _
        split
        · rename_i k ek
          exact ⟨wf, fun j e => by
            cases e
            exact wf.kp _ (kget_mem ek)⟩
        · obtain ⟨h1, h2⟩ := hm pl
          refine ⟨⟨h1.th, fun e he => ?_⟩, h2⟩
          rcases kput_mem he with he | he
          · exact h1.kp e he
          · rw [he]
            exact h2 _ rfl
theorem get_wf {g : Gam} (mok : g.M.Ok) (f : Nat) {S : Cor} {n : Str} {s req : Nat} {p : List Str} (hn : (g.M.get n).isSome = true) (wf : WF g S) : WF g (getF g f S n s req p).1 ∧ Is (getF g f S n s req p).1 (getF g f S n s req p).2 n := by
  have gr := get_grow g f S n s req p
  obtain ⟨h1, h2⟩ := get_good mok f _ S n s req p (fun _ z => z.elim) hn wf.b
  exact ⟨⟨by rw [gr.sc]; exact wf.ok, h1, fun k hk => by rw [gr.lo] at hk; exact Nat.lt_of_lt_of_le (wf.lo k hk) gr.len⟩, h2⟩
theorem fault_wf {g : Gam} {S : Cor} {w : Str} {k : Nat} {p : List Str} (wf : WF g S) : WF g (S.fault w k p) := ⟨wf.ok, ⟨wf.b.th, wf.b.kp⟩, wf.lo⟩
theorem wanted_wf {g : Gam} (mok : g.M.Ok) (f : Nat) {S : Cor} {n : Str} {k s req : Nat} {p : List Str} (hn : (g.M.get n).isSome = true) (wf : WF g S) : WF g (wantedG (getF g f) S k n s req p).1 ∧ Is (wantedG (getF g f) S k n s req p).1 (wantedG (getF g f) S k n s req p).2 n := by
  obtain ⟨h1, h2⟩ := get_wf mok f (s := s) (req := req) (p := p ++ [n]) hn wf
  show WF g (miss _ k _ (getF g f S n s req (p ++ [n])).2) ∧ Is (miss _ k _ (getF g f S n s req (p ++ [n])).2) (getF g f S n s req (p ++ [n])).2 n
  cases eo : (getF g f S n s req (p ++ [n])).2 with
  | none => exact ⟨fault_wf h1, fun k z => nomatch z⟩
  | some j => rw [eo] at h2; exact ⟨h1, h2⟩
end K94
set_option maxHeartbeats 4000000
/-! plain facts: using, ending -/
namespace K94
open PySem PySem.Spec PyProof.Rows L2

/-- as Grow, but loose things may come -/
structure GrowL (S S' : Cor) : Prop where
  sc : S'.scopes = S.scopes
  le : S'.left = S.left
  th : ∃ new, S'.things = S.things ++ new
  sz : sz S ≤ sz S'
theorem GrowL.refl (S : Cor) : GrowL S S := ⟨rfl, rfl, ⟨[], by simp⟩, Nat.le_refl _⟩
theorem Grow.l {S S' : Cor} (h : Grow S S') : GrowL S S' := ⟨h.sc, h.le, h.th, h.sz⟩
theorem GrowL.trans {S S1 S2 : Cor} (a : GrowL S S1) (b : GrowL S1 S2) : GrowL S S2 := by
  obtain ⟨n1, h1⟩ := a.th
  obtain ⟨n2, h2⟩ := b.th
  exact ⟨b.sc.trans a.sc, b.le.trans a.le, ⟨n1 ++ n2, by rw [h2, h1, List.append_assoc]⟩, Nat.le_trans a.sz b.sz⟩
theorem GrowL.get {S S' : Cor} (h : GrowL S S') {k : Nat} {t : Thg} (e : S.things[k]? = some t) : S'.things[k]? = some t := by
  obtain ⟨n, q⟩ := h.th
  rw [q, List.getElem?_append_left (List.getElem?_eq_some_iff.mp e).1]
  exact e
theorem GrowL.len {S S' : Cor} (h : GrowL S S') : S.things.length ≤ S'.things.length := by
  obtain ⟨n, q⟩ := h.th
  rw [q, List.length_append]
  omega
theorem GrowL.nm {S S' : Cor} (h : GrowL S S') : NmLe S.things S'.things := fun j t e => ⟨t, h.get e, rfl⟩
theorem grow_letLoose (g : Gam) (S : Cor) (o : Option Nat) : GrowL S (letLoose g S o) := by
  cases o with
  | none => exact GrowL.refl S
  | some k =>
    show GrowL S (if _ then _ else _)
    split
    · exact ⟨rfl, rfl, ⟨[], by simp [Cor.addL]⟩, by unfold sz Cor.addL; simp <;> omega⟩
    · exact GrowL.refl S
theorem letLoose_wf {g : Gam} {S : Cor} {o : Option Nat} {n : Str} (h : Is S o n) (wf : WF g S) : WF g (letLoose g S o) := by
  cases o with
  | none => exact wf
  | some k =>
    show WF g (if _ then _ else _)
    split
    · obtain ⟨t, e, _⟩ := h k rfl
      refine ⟨wf.ok, ⟨wf.b.th, wf.b.kp⟩, fun j hj => ?_⟩
      rcases List.mem_append.mp hj with hj | hj
      · exact wf.lo j hj
      · rw [List.mem_singleton.mp hj]
        exact (List.getElem?_eq_some_iff.mp e).1
    · exact wf
theorem grow_head (g : Gam) (S : Cor) (k req : Nat) (p : List Str) (t : Thg) : GrowL S (useHead g S k req p t) := by
  have h1 : GrowL S (if t.ended = true then S.fault "ended" k p else S) := by
    split
    · exact (grow_fault _ _ _ _).l
    · exact GrowL.refl S
  unfold useHead
  dsimp only
  split
  · exact h1.trans (grow_fault _ _ _ _).l
  · exact h1
theorem head_wf {g : Gam} {S : Cor} {k req : Nat} {p : List Str} {t : Thg} (wf : WF g S) : WF g (useHead g S k req p t) := by
  have h1 : WF g (if t.ended = true then S.fault "ended" k p else S) := by
    split
    · exact fault_wf wf
    · exact wf
  unfold useHead
  dsimp only
  split
  · exact fault_wf h1
  · exact h1
theorem step_held {g : Gam} {use : Cor → Nat → List Str → Cor} {k src req : Nat} {p : List Str} {S : Cor} {l : List (Option Nat)} {w : Bool × Str} (h : w.1 = true) :
    useStep g use k src req p (S, l) w = (onO (fun S j => use S j (p ++ [w.2])) S (l.headD none), l.tail) := by
  unfold useStep
  rw [h]
  rfl
theorem step_each {g : Gam} {use : Cor → Nat → List Str → Cor} {k src req : Nat} {p : List Str} {S S1 : Cor} {o : Option Nat} {l : List (Option Nat)} {w : Bool × Str} (h : w.1 = false) (e : wantedG (getF g TOP) S k w.2 src req p = (S1, o)) :
    useStep g use k src req p (S, l) w = (onO (fun S j => use S j (p ++ [w.2])) (letLoose g S1 o) o, l) := by
  unfold useStep
  rw [h, e]
  rfl
theorem grow_step {g : Gam} {use : Cor → Nat → List Str → Cor} (hu : ∀ S j p, GrowL S (use S j p)) (k src req : Nat) (p : List Str) (q : Cor × List (Option Nat)) (w : Bool × Str) : GrowL q.1 (useStep g use k src req p q w).1 := by
  obtain ⟨S, l⟩ := q
  cases h : w.1 with
  | true =>
    rw [step_held h]
    cases l.headD none with
    | none => exact GrowL.refl S
    | some j => exact hu _ _ _
  | false =>
    rcases e : wantedG (getF g TOP) S k w.2 src req p with ⟨S1, o⟩
    rw [step_each h e]
    have g1 := (wanted_grow (get_grow g TOP) S k w.2 src req p).l
    rw [e] at g1
    have g2 := g1.trans (grow_letLoose g S1 o)
    cases o with
    | none => exact g2
    | some j => exact g2.trans (hu _ _ _)
theorem useF_succ (g : Gam) (f : Nat) {S : Cor} {k req : Nat} {p : List Str} {t : Thg} (e : S.things[k]? = some t) : useF g (f + 1) S k req p =
    ((g.M.wants t.name).foldl (useStep g (fun S j p => useF g f S j req p) k (if g.bk.each = "now" then req else 0) req p) (useHead g S k req p t, t.got)).1 := by
  show (match S.things[k]? with | none => S | some t => _) = _
  rw [e]
theorem grow_use (g : Gam) : ∀ (f : Nat) (S : Cor) (k req : Nat) (p : List Str), GrowL S (useF g f S k req p)
  | 0, S, _, _, _ => GrowL.refl S
  | f + 1, S, k, req, p => by
    cases e : S.things[k]? with
    | none =>
      show GrowL S (match S.things[k]? with | none => S | some t => _)
      rw [e]
      exact GrowL.refl S
    | some t =>
      rw [useF_succ g f e]
      exact (grow_head g S k req p t).trans (foldl_keep (P := fun (a b : Cor × List (Option Nat)) => GrowL a.1 b.1) (fun _ => GrowL.refl _) (fun _ _ _ a b => GrowL.trans a b) (grow_step (fun S j p => grow_use g f S j req p) k _ req p) _ (useHead g S k req p t, t.got))
theorem step_wf {g : Gam} (mok : g.M.Ok) {use : Cor → Nat → List Str → Cor} (hu : ∀ S j p, WF g S → WF g (use S j p)) {k src req : Nat} {p : List Str} {q : Cor × List (Option Nat)} {w : Bool × Str} (hw : (g.M.get w.2).isSome = true) (wf : WF g q.1) : WF g (useStep g use k src req p q w).1 := by
  obtain ⟨S, l⟩ := q
  cases h : w.1 with
  | true =>
    rw [step_held h]
    cases l.headD none with
    | none => exact wf
    | some j => exact hu _ _ _ wf
  | false =>
    rcases e : wantedG (getF g TOP) S k w.2 src req p with ⟨S1, o⟩
    rw [step_each h e]
    have g1 := wanted_wf mok TOP (k := k) (s := src) (req := req) (p := p) hw wf
    rw [e] at g1
    have g2 := letLoose_wf g1.2 g1.1
    cases o with
    | none => exact g2
    | some j => exact hu _ _ _ g2
theorem foldl_inv {α β : Type} {P : β → Prop} {f : β → α → β} : ∀ (l : List α) (b : β), (∀ b a, a ∈ l → P b → P (f b a)) → P b → P (l.foldl f b)
  | [], b, _, h => h
  | a :: l, b, hf, h => foldl_inv l (f b a) (fun b x hx => hf b x (List.mem_cons_of_mem _ hx)) (hf b a List.mem_cons_self h)
theorem use_wf {g : Gam} (mok : g.M.Ok) : ∀ (f : Nat) {S : Cor} {k req : Nat} {p : List Str}, WF g S → WF g (useF g f S k req p)
  | 0, S, _, _, _, wf => wf
  | f + 1, S, k, req, p, wf => by
    cases e : S.things[k]? with
    | none =>
      show WF g (match S.things[k]? with | none => S | some t => _)
      rw [e]
      exact wf
    | some t =>
      rw [useF_succ g f e]
      obtain ⟨pr, hpr⟩ := some_of (wf.th e).nm
      refine foldl_inv (P := fun (q : Cor × List (Option Nat)) => WF g q.1) _ _ (fun q w hw h => ?_) (head_wf wf)
      rw [wants_of hpr] at hw
      exact step_wf mok (fun S j p h => use_wf mok f h) (mok.down t.name pr hpr w hw).1 h

/-! ### ending -/
structure EndLe (S S' : Cor) : Prop where
  sc : S'.scopes = S.scopes
  ke : S'.kept = S.kept
  lo : S'.loose = S.loose
  le : S'.left = S.left
  fa : S'.faults = S.faults
  len : S'.things.length = S.things.length
  th : ∀ (j : Nat) (t : Thg), S.things[j]? = some t → ∃ b, S'.things[j]? = some { t with ended := b }
theorem EndLe.refl (S : Cor) : EndLe S S := ⟨rfl, rfl, rfl, rfl, rfl, rfl, fun _ t h => ⟨t.ended, h⟩⟩
theorem EndLe.trans {S S1 S2 : Cor} (a : EndLe S S1) (b : EndLe S1 S2) : EndLe S S2 :=
  ⟨b.sc.trans a.sc, b.ke.trans a.ke, b.lo.trans a.lo, b.le.trans a.le, b.fa.trans a.fa, b.len.trans a.len, fun j t h => by
    obtain ⟨b1, h1⟩ := a.th j t h
    obtain ⟨b2, h2⟩ := b.th j _ h1
    exact ⟨b2, h2⟩⟩
theorem EndLe.sz {S S' : Cor} (h : EndLe S S') : sz S' = sz S := by unfold K94.sz; rw [h.len, h.ke, h.fa, h.lo, h.le]
theorem EndLe.nm {S S' : Cor} (h : EndLe S S') : NmLe S.things S'.things := fun j t e => by
  obtain ⟨b, h1⟩ := h.th j t e
  exact ⟨_, h1, rfl⟩
theorem EndLe.back {S S' : Cor} (h : EndLe S S') {j : Nat} {t' : Thg} (e : S'.things[j]? = some t') : ∃ (t : Thg) (b : Bool), S.things[j]? = some t ∧ t' = { t with ended := b } := by
  have hl : j < S.things.length := by rw [← h.len]; exact (List.getElem?_eq_some_iff.mp e).1
  have e0 := List.getElem?_eq_getElem hl
  obtain ⟨b, h1⟩ := h.th j _ e0
  rw [e] at h1
  exact ⟨_, b, e0, Option.some.inj h1⟩
theorem EndLe.wf {g : Gam} {S S' : Cor} (h : EndLe S S') (wf : WF g S) : WF g S' := by
  refine ⟨by rw [h.sc]; exact wf.ok, ⟨fun k t' _ e => ?_, fun e he => ?_⟩, fun k hk => by rw [h.lo] at hk; rw [h.len]; exact wf.lo k hk⟩
  · obtain ⟨t, b, e0, rfl⟩ := h.back e
    have c := (wf.th e0).mono h.nm
    exact ⟨c.nm, c.got⟩
  · rw [h.ke] at he
    obtain ⟨t, h1, h2⟩ := wf.b.kp e he
    obtain ⟨t', h3, h4⟩ := h.nm _ t h1
    exact ⟨t', h3, h4.trans h2⟩
theorem end_set {S : Cor} {k : Nat} {t : Thg} (e : S.things[k]? = some t) (b : Bool) : EndLe S (S.setT k { t with ended := b }) := by
  refine ⟨rfl, rfl, rfl, rfl, rfl, by show (S.things.set k _).length = _; rw [List.length_set], fun j u h => ?_⟩
  show ∃ b', (S.things.set k _)[j]? = _
  by_cases q : j = k
  · subst q
    rw [e] at h
    cases h
    exact ⟨b, set_here e⟩
  · exact ⟨u.ended, by rw [set_get q]; exact h⟩
theorem endF_succ (g : Gam) (f : Nat) {S : Cor} {k : Nat} {t : Thg} (e : S.things[k]? = some t) : endF g (f + 1) S k =
    if g.bk.ends = "holder" then t.got.foldl (endStep g (endF g f)) (S.setT k { t with ended := true }) else S.setT k { t with ended := true } := by
  show (match S.things[k]? with | none => S | some t => _) = _
  rw [e]
theorem step_end {g : Gam} {en : Cor → Nat → Cor} (he : ∀ S j, EndLe S (en S j)) (S : Cor) (o : Option Nat) : EndLe S (endStep g en S o) := by
  cases o with
  | none => exact EndLe.refl S
  | some j =>
    show EndLe S (if _ then _ else _)
    split
    · exact he S j
    · exact EndLe.refl S
theorem end_le (g : Gam) : ∀ (f : Nat) (S : Cor) (k : Nat), EndLe S (endF g f S k)
  | 0, S, _ => EndLe.refl S
  | f + 1, S, k => by
    cases e : S.things[k]? with
    | none =>
      show EndLe S (match S.things[k]? with | none => S | some t => _)
      rw [e]
      exact EndLe.refl S
    | some t =>
      rw [endF_succ g f e]
      split
      · exact (end_set e true).trans (foldl_keep (P := EndLe) EndLe.refl (fun _ _ _ => EndLe.trans) (step_end (end_le g f)) _ _)
      · exact end_set e true
end K94
set_option maxHeartbeats 4000000
/-! using a thing -/
namespace K94
open PySem PySem.Spec PyProof.Rows L2 StX
theorem Paired.drop_head {α β : Type} {F : α → β → Prop} {l : List α} {y : β} {r : List β} (h : Paired F l (y :: r)) : ∃ x t, l = x :: t ∧ F x y ∧ Paired F t r := by
  cases h with
  | cons a b => exact ⟨_, _, rfl, a, b⟩
theorem seq0 {n : Nat} : seqIndex? 0 (n + 1) = some 0 := (ixN_seq (n := n + 1) (i := 0) (j := 0) (by unfold ixN; rw [if_pos (by decide), if_pos (by omega)]; rfl)).1
theorem drop_of {α : Type} {l : List α} {i : Nat} {x : α} (h : l[i]? = some x) : l.drop i = x :: l.drop (i + 1) := by
  obtain ⟨hi, rfl⟩ := List.getElem?_eq_some_iff.mp h
  exact List.drop_eq_getElem_cons hi
/-- the loop of a use, as far as it has come -/
def useLoop (g : Gam) (r k src req : Nat) (p : List Str) (S : Cor) (l : List (Option Nat)) (ws : List (Bool × Str)) : Cor × List (Option Nat) := ws.foldl (useStep g (fun S j p => useF g r S j req p) k src req p) (S, l)
theorem useLoop_sz {g : Gam} {r k src req : Nat} {p : List Str} {S : Cor} {l : List (Option Nat)} (ws : List (Bool × Str)) (i : Nat) : sz (useLoop g r k src req p S l (ws.take i)).1 ≤ sz (useLoop g r k src req p S l ws).1 := by
  unfold useLoop
  rw [foldl_take ws (S, l) i]
  exact (foldl_keep (P := fun (a b : Cor × List (Option Nat)) => GrowL a.1 b.1) (fun _ => GrowL.refl _) (fun _ _ _ a b => GrowL.trans a b) (grow_step (fun S j p => grow_use g r S j req p) k src req p) _ _).sz
theorem useLoop_grow {g : Gam} {r k src req : Nat} {p : List Str} {S : Cor} {l : List (Option Nat)} (ws : List (Bool × Str)) : GrowL S (useLoop g r k src req p S l ws).1 :=
  foldl_keep (P := fun (a b : Cor × List (Option Nat)) => GrowL a.1 b.1) (fun _ => GrowL.refl _) (fun _ _ _ a b => GrowL.trans a b) (grow_step (fun S j p => grow_use g r S j req p) k src req p) _ (S, l)
theorem AdLe.of_eq {S : Cor} {A A' : Ad} (h : A'.a = A.a) : AdLe S A A' := fun r _ => by rw [h]
section
variable {P : Program} {w : World} {K : PySem.W.Frag} {mg : Str → Option Value} {base : Heap} {f : Addr} {fd : FuncData}

def spUse (K : PySem.W.Frag) (r : Nat) : Sp := fun vs H Q _ => ∃ g H0 A S W k req pa p t y, vs = [.ref (A.a .self), .int (k : Nat), .int (req : Nat), .ref pa] ∧ Ctr K g H0 H A S W ∧ PathAt H pa p ∧ WF g S ∧ S.things[k]? = some t ∧ g.M.rk t.name < r ∧ S.scopes[req]? = some y ∧ y.alive = true ∧ p.length + r + 10 ≤ 100 ∧ sz (useF g r S k req p) ≤ BIG ∧
  ∀ A' H', Ctr K g H0 H' A' (useF g r S k req p) W → AdLe S A A' → Tups H H' → Q .non H'

theorem ok_use_thing {k kw r : Nat} (hk : 10 ≤ k) (hkw : kw ≤ k) (F : FnP K "use_thing" "Container.use_thing" s_Container_use_thing f fd) (T : Txt K mg) (m_Parts___getitem__ : GM P w K mg base 3 (CParts K) "__getitem__" P_Parts___getitem__ (spGetPart K))
    (p_Part_life : PR P w K mg base (CPart K) "life" "p_life") (p_Part_wants : PR P w K mg base (CPart K) "wants" "p_wants") (p_Book_each : PR P w K mg base (CBook K) "each" "b_each") (m_Container_ancestor : GM P w K mg base 1 (CContainer K) "ancestor" P_Container_ancestor (spAncestor K))
    (m_Container_wanted : GM P w K mg base kw (CContainer K) "wanted" P_Container_wanted (spWanted K TOP)) (m_Container_let_loose : GM P w K mg base 5 (CContainer K) "let_loose" P_Container_let_loose (spLetLoose K))
    (m_Container_use_thing : GM P w K mg base k (CContainer K) "use_thing" P_Container_use_thing (spUse K r)) : FnOk P w K mg base CX0 (k + 1) f fd P_Container_use_thing (spUse K (r + 1)) := by
  refine okD F sc_Container_use_thing (fun vs H Q E h => ?_) (fun cdv A outer s H vs Q E hr h => ?_)
  · obtain ⟨_, _, _, _, _, _, _, _, _, _, _, rfl, _⟩ := h; rfl
  · obtain ⟨g, H0, A, S, W, kk, req, pa, p, t, y, rfl, c, hp, wf, et, hrk, ey, eya, hl, hz, q⟩ := h
    have nd := sc_Container_use_thing.nd
    refine ⟨_, pss_cons (ps_set (i := 4) nd rfl (Or.inl rfl) (pe_ix ix_list (pe_f (pv 0) T.c_Container T.n_Container_c_things) (pv 1) (fun _ _ => rfl)))
    (pss_cons (ps_set (i := 5) nd rfl (Or.inl rfl) (pe_own_get m_Parts___getitem__ T.fk (hr.mono (by omega)) (pe_f (pv 0) T.c_Container T.n_Container_c_parts) (pe_f (pv 4) T.c_Thing T.n_Thing_name)))
    (pss_cut (ps_if (pt_val (pe_f (pv 4) T.c_Thing T.n_Thing_ended))
      (pss_one (ps_expr (pe_bm PySem.F.plainAttrs_list PySem.F.slot_list_append PySem.F.type_list_append mt_append (pe_f (pv 0) T.c_Container T.n_Container_c_faults) (pa_cons (pe_tup (pa_cons (pe_f (pv 0) T.c_Container T.n_Container_c_deeds) (pa_cons (pe_str) (pa_cons (pv 1) (pa_cons (pv 3) pa_nil))))) pa_nil))))
      (pss_nil))
    (pss_cut (ps_if (PW.pt (pw_and (pt_cmpR op_ne (pe_pr p_Part_life (hr.mono (by omega)) (pv 5)) (pe_gi T.i_USE) (nomark _)) (pw_and1 (pt_cmpR op_ne (pe_f (pv 4) T.c_Thing T.n_Thing_home) (pe_m m_Container_ancestor (hr.mono (by omega)) (pv 0) (pa_cons (pv 2) (pa_cons (pe_pr p_Part_life (hr.mono (by omega)) (pv 5)) pa_nil))) (nomark _)))))
      (pss_one (ps_expr (pe_bm PySem.F.plainAttrs_list PySem.F.slot_list_append PySem.F.type_list_append mt_append (pe_f (pv 0) T.c_Container T.n_Container_c_faults) (pa_cons (pe_tup (pa_cons (pe_f (pv 0) T.c_Container T.n_Container_c_deeds) (pa_cons (pe_str) (pa_cons (pv 1) (pa_cons (pv 3) pa_nil))))) pa_nil))))
      (pss_nil))
    (pss_cons (ps_set (i := 6) nd rfl (Or.inl rfl) (pe_ifExp (pt_cmpR op_eq (pe_pr p_Book_each (hr.mono (by omega)) (pe_f (pv 0) T.c_Container T.n_Container_c_book)) (pe_str) (nomark _)) (pv 2) (pe_int)))
    (pss_cons (ps_set (i := 7) nd rfl (Or.inl rfl) (pe_callTy call_list_of (by rfl) T.f_list (by decide +kernel) (pa_cons (pe_f (pv 4) T.c_Thing T.n_Thing_got) pa_nil)))
    (pss_one (ps_for PassesOwn.never rfl (pi_tup (pe_pr p_Part_wants (hr.mono (by omega)) (pv 5))) (pg_tup rfl (pgs_cons (pg_name (i := 8) nd rfl (Or.inl rfl)) (pgs_cons (pg_name (i := 9) nd rfl (Or.inl rfl)) pgs_nil)))
      (pss_cut (ps_if (pt_cmpR op_eq (pv 8) (pe_str) (nomark _))
        (pss_one (ps_set (i := 10) nd rfl (Or.inl rfl) (pe_bm PySem.F.plainAttrs_list PySem.F.slot_list_pop PySem.F.type_list_pop mt_popAt (pv 7) (pa_cons (pe_int) pa_nil))))
        (pss_cons (ps_set (i := 10) nd rfl (Or.inl rfl) (pe_m m_Container_wanted (hr.mono hkw) (pv 0) (pa_cons (pv 1) (pa_cons (pv 9) (pa_cons (pv 6) (pa_cons (pv 2) (pa_cons (pv 3) pa_nil)))))))
        (pss_one (ps_expr (pe_m m_Container_let_loose (hr.mono (by omega)) (pv 0) (pa_cons (pv 10) pa_nil))))))
      (pss_one (ps_if (pt_cmpR op_notN (pv 10) (pe_non) (nomark _))
        (pss_one (ps_expr (pe_m m_Container_use_thing hr (pv 0) (pa_cons (pv 10) (pa_cons (pv 2) (pa_cons (pe_tup (pa_star (pv 3) (pa_cons (pv 9) pa_nil))) pa_nil))))))
        (pss_nil))))))))))), ?_⟩
    have cm := wf.th et
    obtain ⟨pr, hpr⟩ := some_of cm.nm
    have elf := life_of hpr
    have ews := wants_of hpr
    have hlife := c.st.mok.life t.name pr hpr
    have ez := useF_succ g r (req := req) (p := p) et
    rw [ews] at ez
    obtain ⟨dxp, gd, kvs, pt⟩ := c.parts
    -- thing, part
    refine ⟨_, rfl, _, _, _, _, rfl, c.self, lk_Container_c_things, _, rfl, _, _, _, _, rfl, rfl, SqL.of c.things, c.sthing et, ?_⟩
    refine ⟨_, rfl, _, _, _, _, rfl, c.self, lk_Container_c_parts, _, rfl, _, _, _, _, rfl, c.thing et, lk_Thing_name, _, _, _, rfl, pt.self, g.pa, g.M, dxp, gd, kvs, t.name, pr, rfl, pt, hpr, fun v hv => ?_⟩
    obtain ⟨ap, dxa, tw, ws, rfl, hap, htw, hws⟩ := hv
    have hp0 : PathAt H pa p := hp
    -- if thing.ended
    refine ⟨fun σ' H' => ∃ A', σ' = [some (.ref (A.a .self)), some (.int (kk : Nat)), some (.int (req : Nat)), some (.ref pa), some (.ref (A.a (.thing kk))), some (.ref ap), none, none, none, none, none] ∧ Ctr K g H0 H' A' (if t.ended = true then S.fault "ended" kk p else S) W ∧ A'.a = A.a ∧ Tups H H' ∧ PartAt K H' (.ref ap) pr, ?_, ?_⟩
    · refine ⟨_, rfl, _, _, _, _, rfl, c.thing et, lk_Thing_ended, _, rfl, ?_⟩
      cases hte : t.ended with
      | false => exact iteF ⟨A, rfl, c, rfl, Tups.refl H, ap, dxa, tw, ws, rfl, hap, htw, hws⟩
      | true =>
        refine iteT ⟨_, rfl, _, _, _, _, rfl, c.self, lk_Container_c_faults, .inl ⟨rfl, _, SqL.of c.faults⟩, _, rfl, _, _, _, _, rfl, c.self, lk_Container_c_deeds, _, rfl, _, rfl, by show 4 ≤ sizeLine; rw [sizeLine_eq]; decide, fun t3 ht3 => ?_⟩
        have sm3 : Same H (upd H t3 (.tup [.int A.dn, .str "ended", .int (kk : Nat), .ref pa])) := Same.new ht3
        have c3 := c.grow sm3
        have hl2 : A.fv.length < sizeLine := by
          rw [Paired.length c.fts]
          refine sline (Nat.le_trans ?_ (Nat.le_trans (grow_use g (r + 1) S kk req p).sz hz))
          unfold sz
          omega
        have hf : FaultAt (upd H t3 (.tup [.int A.dn, .str "ended", .int (kk : Nat), .ref pa])) (.ref t3) ("ended", kk, p) := ⟨t3, A.dn, pa, rfl, upd_same, (Same.tups sm3) _ _ hp⟩
        refine ⟨_, _, _, rfl, rfl, c3.faults, hl2, A.addF (.ref t3), rfl, c3.wFault hf, rfl, (Same.tups sm3).trans (c3.tups .faults rfl True.intro), ?_⟩
        refine ⟨ap, dxa, tw, ws, rfl, ?_, ((Same.tups sm3).trans (c3.tups .faults rfl True.intro)) _ _ htw, Paired.mono (fun _ _ z => z.mono ((Same.tups sm3).trans (c3.tups .faults rfl True.intro))) hws⟩
        rw [upd_ne (ne_of (sm3 _ _ hap) c3.faults (by intro z; cases z))]
        exact sm3 _ _ hap
    rintro σ1 H1 ⟨A1, rfl, c1, ea1, tu1, hpa1⟩
    generalize hS1 : (if t.ended = true then S.fault "ended" kk p else S) = S1 at c1
    have g1 : GrowL S S1 := by
      rw [← hS1]
      split
      · exact (grow_fault _ _ _ _).l
      · exact GrowL.refl S
    have szh : sz (useHead g S kk req p t) ≤ BIG := by
      refine Nat.le_trans ?_ hz
      rw [ez]
      exact (useLoop_grow (g := g) (r := r) (k := kk) (src := if g.bk.each = "now" then req else 0) (req := req) (p := p) (l := t.got) pr.wants).sz
    obtain ⟨_, dxa1, tw1, ws1, he1, hap1, htw1, hws1⟩ := hpa1
    cases he1
    -- if part.life != USE and ..
    refine ⟨fun σ' H' => ∃ A', σ' = [some (.ref (A.a .self)), some (.int (kk : Nat)), some (.int (req : Nat)), some (.ref pa), some (.ref (A.a (.thing kk))), some (.ref ap), none, none, none, none, none] ∧ Ctr K g H0 H' A' (useHead g S kk req p t) W ∧ A'.a = A.a ∧ Tups H H' ∧ PartAt K H' (.ref ap) pr, ?_, ?_⟩
    · have et1 : S1.things[kk]? = some t := g1.get et
      have ey1 : S1.scopes[req]? = some y := by rw [g1.sc]; exact ey
      have ok1 : ScOk g.M.depth S1.scopes := by rw [g1.sc]; exact wf.ok
      have hs1 := c1.self
      rw [ea1] at hs1
      have ht1 := c1.thing et1
      rw [ea1] at ht1
      have eh : useHead g S kk req p t = if pr.life ≠ -1 ∧ t.home ≠ anc S1.scopes req pr.life then S1.fault "strayed" kk p else S1 := by
        unfold useHead
        rw [hS1, elf, g1.sc]
      rw [eh]
      refine ⟨_, rfl, _, _, _, _, rfl, hap1, lk_Part_p_life, rfl, _, rfl, ?_⟩
      by_cases h1 : pr.life = -1
      · rw [decide_eq_true (show V.int pr.life = V.int (-1) by rw [h1]), if_neg fun z => z.1 h1]
        exact iteF (iteF ⟨A1, rfl, c1, ea1, tu1, ap, dxa1, tw1, ws1, rfl, hap1, htw1, hws1⟩)
      · rw [decide_eq_false fun z => h1 (int_iff.mp z)]
        refine iteT ⟨_, rfl, _, _, _, _, rfl, ht1, lk_Thing_home, _, rfl, _, _, _, rfl, hs1, no_Container_ancestor, _, rfl, _, rfl, _, _, _, _, rfl, hap1, lk_Part_p_life, ?_⟩
        refine ⟨g, H0, A1, S1, W, req, pr.life, y, by rw [ea1]; rfl, c1, ok1, ey1, by omega, rfl, _, rfl, ?_⟩
        by_cases h2 : t.home = anc S1.scopes req pr.life
        · rw [decide_eq_true (show V.int (t.home : Nat) = V.int (anc S1.scopes req pr.life : Nat) by rw [h2]), if_neg fun z => z.2 h2]
          exact iteF ⟨A1, rfl, c1, ea1, tu1, ap, dxa1, tw1, ws1, rfl, hap1, htw1, hws1⟩
        · rw [decide_eq_false fun z => h2 (by have := int_iff.mp z; omega), if_pos ⟨h1, h2⟩]
          rw [eh, if_pos ⟨h1, h2⟩] at szh
          refine iteT ⟨_, rfl, _, _, _, _, rfl, hs1, lk_Container_c_faults, .inl ⟨rfl, _, SqL.of c1.faults⟩, _, rfl, _, _, _, _, rfl, hs1, lk_Container_c_deeds, _, rfl, _, rfl, by show 4 ≤ sizeLine; rw [sizeLine_eq]; decide, fun t3 ht3 => ?_⟩
          have sm3 : Same H1 (upd H1 t3 (.tup [.int A1.dn, .str "strayed", .int (kk : Nat), .ref pa])) := Same.new ht3
          have c3 := c1.grow sm3
          have hl2 : A1.fv.length < sizeLine := by
            rw [Paired.length c1.fts]
            refine sline (Nat.le_trans ?_ (Nat.le_trans (grow_fault S1 "strayed" kk p).sz szh))
            unfold sz
            omega
          have hf : FaultAt (upd H1 t3 (.tup [.int A1.dn, .str "strayed", .int (kk : Nat), .ref pa])) (.ref t3) ("strayed", kk, p) := ⟨t3, A1.dn, pa, rfl, upd_same, (Same.tups sm3) _ _ (tu1 _ _ hp)⟩
          have c4 := c3.wFault hf
          have tu4 := (Same.tups sm3).trans (c3.tups (o2 := .lst (A1.fv ++ [.ref t3])) .faults rfl True.intro)
          have hfl := c3.faults
          refine ⟨_, _, _, rfl, rfl, hfl, hl2, A1.addF (.ref t3), rfl, c4, ea1, tu1.trans tu4, ?_⟩
          refine ⟨ap, dxa1, tw1, ws1, rfl, ?_, tu4 _ _ htw1, Paired.mono (fun _ _ z => z.mono tu4) hws1⟩
          rw [upd_ne (ne_of (sm3 _ _ hap1) hfl (by intro z; cases z))]
          exact sm3 _ _ hap1
    rintro σ2 H2 ⟨A2, rfl, c2, ea2, tu2, hpa2⟩
    obtain ⟨_, dxa2, tw2, ws2, he2, hap2, htw2, hws2⟩ := hpa2
    cases he2
    have g2 : GrowL S (useHead g S kk req p t) := grow_head g S kk req p t
    have wf2 : WF g (useHead g S kk req p t) := head_wf wf
    generalize useHead g S kk req p t = S2 at *
    have et2 : S2.things[kk]? = some t := g2.get et
    have hs2 := c2.self
    rw [ea2] at hs2
    have ht2 := c2.thing et2
    rw [ea2] at ht2
    have hg2 := c2.got et2
    obtain ⟨dxb, tb, bk⟩ := c2.book
    -- source = ..
    have isrc : ∀ {Q' : VK} {HH : Hp} {σ : L2.St} (ha : σ[2]? = some (some (.int (req : Nat)))), Q' (.int ((if g.bk.each = "now" then req else 0 : Nat) : Int)) HH → if decide (V.str g.bk.each = V.str "now") = true then tVar 2 σ HH Q' else tC (.int 0) σ HH Q' := by
      intro Q' HH σ ha h
      by_cases z : g.bk.each = "now"
      · rw [if_pos z] at h
        rw [decide_eq_true (str_iff.mpr z)]
        exact iteT ⟨_, ha, h⟩
      · rw [if_neg z] at h
        rw [decide_eq_false fun u => z (str_iff.mp u)]
        exact iteF h
    refine ⟨_, rfl, _, _, _, _, rfl, hs2, lk_Container_c_book, _, _, _, _, rfl, bk.self, lk_Book_b_each, rfl, _, rfl, isrc rfl ?_⟩
    generalize hsrc : (if g.bk.each = "now" then req else 0) = src at ez
    -- held = list(thing.got)
    refine ⟨_, rfl, _, _, _, _, rfl, ht2, lk_Thing_got, _, _, rfl, .inl (SqL.of hg2), fun l hl0 => ?_⟩
    have h0l : H0 l = none := c2.same.free hl0
    have c3 := c2.other (o := .lst (t.got.map oV)) hl0
    have sm3 : Same H2 (upd H2 l (.lst (t.got.map oV))) := Same.new hl0
    have srcx : ∃ z, S.scopes[src]? = some z := by
      rw [← hsrc]
      split
      · exact ⟨y, ey⟩
      · exact ⟨_, wf.ok.z⟩
    rw [ez] at hz q
    change sz (useLoop g r kk src req p S2 t.got pr.wants).1 ≤ BIG at hz
    change ∀ A' H', Ctr K g H0 H' A' (useLoop g r kk src req p S2 t.got pr.wants).1 W → _ at q
    refine ⟨_, rfl, _, _, _, _, rfl, sm3 _ _ hap2, lk_Part_p_wants, tw2, rfl, ⟨ws2, SqT.of (sm3 _ _ htw2)⟩, for_tup (K := K) (a := tw2) (xs := ws2)
      (fun i σ H' => ∃ (A' : Ad) (v8 v9 v10 : Option V), σ = [some (.ref (A.a .self)), some (.int (kk : Nat)), some (.int (req : Nat)), some (.ref pa), some (.ref (A.a (.thing kk))), some (.ref ap), some (.int (src : Nat)), some (.ref l), v8, v9, v10] ∧
        Ctr K g (upd H0 l (.lst ((useLoop g r kk src req p S2 t.got (pr.wants.take i)).2.map oV))) H' A' (useLoop g r kk src req p S2 t.got (pr.wants.take i)).1 W ∧ AdLe S A A' ∧ Tups H H' ∧ Tups H2 H' ∧ WF g (useLoop g r kk src req p S2 t.got (pr.wants.take i)).1 ∧
        Paired (GotOk (useLoop g r kk src req p S2 t.got (pr.wants.take i)).1.things) (useLoop g r kk src req p S2 t.got (pr.wants.take i)).2 ((pr.wants.drop i).filter (·.1)))
      ⟨A2, none, none, none, rfl, c3, AdLe.of_eq ea2, tu2.trans (Same.tups sm3), Same.tups sm3, wf2, ?_⟩ (fun i σ H' _ ⟨_, _, _, _, _, _, _, _, tu, _⟩ => SqT.of (tu _ _ htw2)) ?_ ?_⟩
    · have z := (wf2.th et2).got
      unfold heldW at z
      rw [ews] at z
      exact z
    · rintro i xw σ H' hi ⟨A', v8, v9, v10, rfl, c', ad', tu', tu2', wf', hpd⟩
      obtain ⟨wt, hwt, aw, rfl, haw⟩ := Paired.get hws2 hi
      have gi : GrowL S (useLoop g r kk src req p S2 t.got (pr.wants.take i)).1 := g2.trans (useLoop_grow _)
      have stp : useLoop g r kk src req p S2 t.got (pr.wants.take (i + 1)) = useStep g (fun S j p => useF g r S j req p) kk src req p (useLoop g r kk src req p S2 t.got (pr.wants.take i)) wt := take_succ hwt
      have szi := useLoop_sz (g := g) (r := r) (k := kk) (src := src) (req := req) (p := p) (S := S2) (l := t.got) pr.wants (i + 1)
      rw [stp] at szi ⊢
      rw [drop_of hwt] at hpd
      generalize useLoop g r kk src req p S2 t.got (pr.wants.take i) = qi at c' wf' hpd gi szi ⊢
      obtain ⟨Si, hl_i⟩ := qi
      replace c' : Ctr K g (upd H0 l (.lst (hl_i.map oV))) H' A' Si W := c'
      replace wf' : WF g Si := wf'
      replace hpd : Paired (GotOk Si.things) hl_i ((wt :: pr.wants.drop (i + 1)).filter (·.1)) := hpd
      replace gi : GrowL S Si := gi
      have hd := c.st.mok.down t.name pr hpr wt (List.mem_of_getElem? hwt)
      have hs' := c'.self
      rw [ad'.self] at hs'
      have hll : H' l = some (.lst (hl_i.map oV)) := c'.same _ _ upd_same
      refine ⟨aw, _, rfl, SqT.of (tu2' _ _ haw), rfl, _, _, rfl, _, _, rfl, rfl, ?_⟩
      -- the way
      refine ⟨fun σ' H3 => ∃ (A3 : Ad) (S3 : Cor) (o : Option Nat) (h3 : List (Option Nat)), σ' = [some (.ref (A.a .self)), some (.int (kk : Nat)), some (.int (req : Nat)), some (.ref pa), some (.ref (A.a (.thing kk))), some (.ref ap), some (.int (src : Nat)), some (.ref l), some (.str (wayS wt.1)), some (.str wt.2), some (oV o)] ∧
        Ctr K g (upd H0 l (.lst (h3.map oV))) H3 A3 S3 W ∧ AdLe S A A3 ∧ Tups H H3 ∧ Tups H2 H3 ∧ WF g S3 ∧ GrowL S S3 ∧ Is S3 o wt.2 ∧ Paired (GotOk S3.things) h3 ((pr.wants.drop (i + 1)).filter (·.1)) ∧
        useStep g (fun S j p => useF g r S j req p) kk src req p (Si, hl_i) wt = (onO (fun S j => useF g r S j req (p ++ [wt.2])) S3 o, h3), ?_, ?_⟩
      · refine ⟨_, rfl, rfl, _, rfl, ?_⟩
        cases hw1 : wt.1 with
        | true =>
          rw [decide_eq_true (show V.str (wayS true) = V.str "held" by rfl)]
          have hf : (wt :: pr.wants.drop (i + 1)).filter (·.1) = wt :: (pr.wants.drop (i + 1)).filter (·.1) := by rw [List.filter_cons, hw1]; rfl
          rw [hf] at hpd
          obtain ⟨o, h3, rfl, hgo, hp3⟩ := Paired.drop_head hpd
          have c4 := c'.wr (o2 := .lst (h3.map oV)) upd_same True.intro (by rw [upd_upd]; exact c.st.mono (Same.new h0l))
          rw [upd_upd] at c4
          refine iteT ⟨_, rfl, .inl ⟨rfl, _, SqL.of hll⟩, _, _, _, 0, _, rfl, rfl, hll, by decide, by decide, seq0, rfl, A', Si, o, h3, rfl, c4, ad', tu'.trans (Tups.wr hll True.intro), tu2'.trans (Tups.wr hll True.intro), wf', gi, hgo, hp3, ?_⟩
          rw [step_held hw1]
          rfl
        | false =>
          rw [decide_eq_false (show ¬ V.str (wayS false) = V.str "held" by decide +kernel)]
          have hf : (wt :: pr.wants.drop (i + 1)).filter (·.1) = (pr.wants.drop (i + 1)).filter (·.1) := by rw [List.filter_cons, hw1]; rfl
          rw [hf] at hpd
          rcases er : wantedG (getF g TOP) Si kk wt.2 src req p with ⟨S3, o⟩
          have gw := wanted_grow (get_grow g TOP) Si kk wt.2 src req p
          have ww := wanted_wf c.st.mok TOP (k := kk) (s := src) (req := req) (p := p) hd.1 wf'
          have est := step_each (g := g) (use := fun S j p => useF g r S j req p) (l := hl_i) hw1 er
          rw [er] at gw ww
          have gl := grow_letLoose g S3 o
          have szl : sz (letLoose g S3 o) ≤ BIG := by
            rw [est] at szi
            refine Nat.le_trans ?_ (Nat.le_trans szi hz)
            cases o with
            | none => exact Nat.le_refl _
            | some j => exact (grow_use g r _ j req _).sz
          have prew : GetPre g Si wt.2 src req := ⟨wf'.ok, by rw [gi.sc]; exact srcx, ⟨y, by rw [gi.sc]; exact ey, eya⟩, hd.1⟩
          have rk6 : g.M.rk wt.2 < TOP := Nat.lt_succ_of_le (c.st.mok.rk5 wt.2)
          refine iteF ⟨_, rfl, _, _, _, rfl, hs', no_Container_wanted, _, rfl, _, rfl, _, rfl, _, rfl, _, rfl, ?_⟩
          refine ⟨g, _, A', Si, W, kk, wt.2, src, req, pa, p, by rw [ad'.self]; rfl, c', tu' _ _ hp0, prew, rk6, by unfold TOP; omega, by rw [er]; exact Nat.le_trans gl.sz szl, fun A4 H4 c4 ad4 tu4 => ?_⟩
          rw [er] at c4 ⊢
          replace c4 : Ctr K g (upd H0 l (.lst (hl_i.map oV))) H4 A4 S3 W := c4
          have hs4 := c4.self
          rw [ad4.self, ad'.self] at hs4
          refine ⟨_, rfl, _, _, _, rfl, hs4, no_Container_let_loose, _, rfl, ?_⟩
          refine ⟨g, _, A4, S3, W, o, by rw [ad4.self, ad'.self]; rfl, c4, fun j ej => ?_, szl, fun H5 c5 tu5 => ?_⟩
          · obtain ⟨t', h1, h2⟩ := ww.2 j ej
            exact ⟨t', h1, by rw [h2]; exact hd.1⟩
          · have gt : GrowL Si (letLoose g S3 o) := gw.l.trans gl
            refine ⟨A4, letLoose g S3 o, o, hl_i, rfl, c5, ad'.trans ad4 gi.len (by rw [gi.sc]; exact Nat.le_refl _), (tu'.trans tu4).trans tu5, (tu2'.trans tu4).trans tu5, letLoose_wf ww.2 ww.1, gi.trans gt, fun j ej => ?_, Paired.mono (fun _ _ z => z.mono gt.nm) hpd, est⟩
            obtain ⟨t', h1, h2⟩ := ww.2 j ej
            exact ⟨t', gl.get h1, h2⟩
      · rintro σ' H3 ⟨A3, S3, o, h3, rfl, c3', ad3, tu3, tu23, wf3, g3, is3, hp3, est⟩
        rw [est] at szi ⊢
        refine ⟨_, rfl, rfl, _, rfl, ?_⟩
        cases o with
        | none => exact iteF ⟨A3, _, _, _, rfl, c3', ad3, tu3, tu23, wf3, hp3⟩
        | some j =>
          obtain ⟨t', h1, h2⟩ := is3 j rfl
          have hs3 := c3'.self
          rw [ad3.self] at hs3
          have ln : (p.map V.str ++ [V.str wt.2]).length ≤ sizeLine := by
            rw [List.length_append, List.length_map, List.length_singleton, sizeLine_eq]
            omega
          refine iteT ⟨_, rfl, _, _, _, rfl, hs3, no_Container_use_thing, _, rfl, _, rfl, _, rfl, _, _, rfl, .inl (SqT.of (tu3 _ _ hp0)), _, rfl, ln, fun t4 ht4 => ?_⟩
          have sm4 : Same H3 (upd H3 t4 (.tup (p.map V.str ++ [V.str wt.2]))) := Same.new ht4
          have gu := grow_use g r S3 j req (p ++ [wt.2])
          refine ⟨g, _, A3, S3, W, j, req, t4, p ++ [wt.2], t', y, by rw [ad3.self]; rfl, c3'.grow sm4, pathSnoc upd_same, wf3, h1, by rw [h2]; omega, by rw [g3.sc]; exact ey, eya, by rw [List.length_append, List.length_singleton]; omega, Nat.le_trans szi hz, fun A5 H5 c5 ad5 tu5 => ?_⟩
          exact ⟨A5, _, _, _, rfl, c5, ad3.trans ad5 g3.len (by rw [g3.sc]; exact Nat.le_refl _), (tu3.trans (Same.tups sm4)).trans tu5, (tu23.trans (Same.tups sm4)).trans tu5, use_wf c.st.mok r wf3, Paired.mono (fun _ _ z => z.mono gu.nm) hp3⟩
    · rintro σ H' ⟨A', v8, v9, v10, rfl, c', ad', tu', tu2', wf', hpd⟩
      rw [Paired.length hws2, List.take_length] at c'
      exact q A' H' (c'.base (Same.new h0l) c.st) ad' tu'
end
end K94
set_option maxHeartbeats 4000000
/-! loops: dict comprehensions; lists against []; a base that takes a new object -/
namespace K94
open PySem PySem.Spec PyProof.Rows L2 StX
section
variable {J : It} {n : Nat} {G : Hp → Prop} {Y : Nat → Hp → V → Hp → Prop}
theorem dc_it (w : Walk J n G Y) {g : TG} {tt : TT} {tk tv : TE} {vs : List Nat} {σ : L2.St} {H1 : Hp} {D : Addr} {Qd : Hp → Prop} (Pv : Nat → Hp → Prop) (h0 : Pv 0 (upd H1 D (.dK []))) (hG : ∀ i H, i ≤ n → Pv i H → G H)
    (hs : ∀ i x H H', i < n → Pv i H → Y i H x H' → g x (wipe σ vs) H' fun σ2 H2 => wipe σ2 vs = wipe σ vs ∧ tt σ2 H2 fun b H3 =>
      if b = true then tk σ2 H3 fun y H4 => tv σ2 H4 fun z H5 => ∃ kvs k, y = kV k ∧ H5 D = some (.dK kvs) ∧ kvs.length < sizeLine ∧ Pv (i + 1) (upd H5 D (.dK (putK kvs k z))) else Pv (i + 1) H3) (hd : ∀ H, Pv n H → Qd H) :
    ∃ W : Nat → Nat → Hp → Prop, (∃ m, W 0 m (upd H1 D (.dK []))) ∧ ∀ i m H, W i m H →
      (J.stop i H ∧ Qd H) ∨ (J.go i H ∧ ∃ Nx : Hp → Prop, (∀ H', Nx H' → ∃ m', m' < m ∧ W (i + 1) m' H') ∧ ∀ x H', J.yld i H x H' → g x (wipe σ vs) H' fun σ2 H2 => wipe σ2 vs = wipe σ vs ∧ tt σ2 H2 fun b H3 =>
        if b = true then tk σ2 H3 fun y H4 => tv σ2 H4 fun z H5 => ∃ kvs k, y = kV k ∧ H5 D = some (.dK kvs) ∧ kvs.length < sizeLine ∧ Nx (upd H5 D (.dK (putK kvs k z))) else Nx H3) := by
  refine ⟨fun i m H => m = n - i ∧ i ≤ n ∧ Pv i H, ⟨n, by simp, Nat.zero_le _, h0⟩, ?_⟩
  rintro i m H ⟨rfl, hi, p⟩
  have q := hG i H hi p
  by_cases hlt : i < n
  · exact .inr ⟨w.goes i H hlt q, Pv (i + 1), fun H' p' => ⟨n - (i + 1), by omega, rfl, hlt, p'⟩, fun x H' y => hs i x H H' hlt p (w.yields i H x H' hlt q y)⟩
  · have e : i = n := by omega
    subst e
    exact .inl ⟨w.stops H q, hd H p⟩
end
/-! ### a list of ints against the empty one -/
theorem canLay_ints : ∀ ns : List Int, PyData.canLayAll0 (ns.map PyData.int) = true
  | [] => rfl
  | n :: ns => by
    show (PyData.canLay0 (.int n) && PyData.canLayAll0 (ns.map PyData.int)) = true
    rw [canLay_ints ns]
    rfl
theorem depth_ints : ∀ ns : List Int, PyData.depthAll (ns.map PyData.int) = 0
  | [] => rfl
  | n :: ns => by
    show max (PyData.depth (.int n)) (PyData.depthAll (ns.map PyData.int)) = 0
    rw [depth_ints ns]
    rfl
theorem shaped_ints (ns : List Int) : SeqAt.shaped (.list (ns.map PyData.int)) = true := by
  show (PyData.canLayAll0 (ns.map PyData.int) && decide (PyData.depthAll (ns.map PyData.int) + 1 ≤ 64)) = true
  rw [canLay_ints, depth_ints]
  rfl
theorem dpAll_ints {K : PySem.W.Frag} {H : Hp} : ∀ ns : List Int, DpAll K H (ns.map V.int) (ns.map PyData.int)
  | [] => .nil
  | n :: ns => .cons (.int n) (dpAll_ints ns)
theorem eqv_nil (ns : List Int) : PyData.eqv (.list (ns.map PyData.int)) (.list []) = ns.isEmpty := by
  cases ns with
  | nil => rfl
  | cons n ns => rfl
/-- xs != [] -/
theorem ne_nil {K : PySem.W.Frag} {H : Hp} {a b : Addr} {ns : List Int} {Q : VK} (ha : SqL K H a (ns.map V.int)) (hb : SqL K H b []) (q : Q (.bl (!ns.isEmpty)) H) : rNeD K (.ref a) (.ref b) H Q :=
  ⟨.list (ns.map PyData.int), .list [], .lst ha (dpAll_ints ns), .lst hb .nil, shaped_ints ns, rfl, by rw [eqv_nil]; exact q⟩
/-- xs == [] -/
theorem eq_nil {K : PySem.W.Frag} {H : Hp} {a b : Addr} {ns : List Int} {Q : VK} (ha : SqL K H a (ns.map V.int)) (hb : SqL K H b []) (q : Q (.bl ns.isEmpty) H) : rEqD K (.ref a) (.ref b) H Q :=
  ⟨.list (ns.map PyData.int), .list [], .lst ha (dpAll_ints ns), .lst hb .nil, shaped_ints ns, rfl, by rw [eqv_nil]; exact q⟩
section
variable {K : PySem.W.Frag} {g : Gam} {H0 H H1 : Hp} {A : Ad} {S : Cor} {W : Wks}
/-- an object that came since comes into the base -/
theorem Ctr.grab (c : Ctr K g H0 H A S W) (s : Same H H1) {D : Addr} {o : HO} (n : H D = none) (h : H1 D = some o) : Ctr K g (upd H0 D o) H1 A S W := by
  have n0 := c.same.free n
  have c1 := c.grow s
  refine ⟨c.st.mono (Same.new n0), fun b u e => ?_, c1.at_, c1.inj, fun r hr => ?_, c1.fts, c1.wks⟩
  · by_cases q : b = D
    · rw [q, upd_same] at e
      rw [q, h]
      exact e
    · rw [upd_ne q] at e
      exact c1.same _ _ e
  · obtain ⟨u, e⟩ := Option.isSome_iff_exists.mp hr
    rw [upd_ne (ne_of_none (c.at_ r u e) n)]
    exact c.new r hr
end
theorem dget_fi {H : Hp} {a : Addr} {o : Obj} {i : Int} {kvs : List (Key × V)} {v : V} (h : H a = some (.frz o (.dK kvs))) (e : valV kvs (Sum.inl i) = some v) : DGet H a (.int i) (some v) := .inl ⟨kvs, Sum.inl i, .inr ⟨o, h⟩, rfl, e.symm⟩
theorem dget_fs {H : Hp} {a : Addr} {o : Obj} {n : Str} {kvs : List (Key × V)} {v : V} (h : H a = some (.frz o (.dK kvs))) (e : valV kvs (Sum.inr n) = some v) : DGet H a (.str n) (some v) := .inl ⟨kvs, Sum.inr n, .inr ⟨o, h⟩, rfl, e.symm⟩

/-! ### the open scopes -/
def alv (sc : List Scp) (i : Nat) : Bool := match sc[i]? with | some x => x.alive | none => false
def undO (sc : List Scp) (i : Nat) : Option Nat := match sc[i]? with | some x => x.under | none => none
def opN (sc : List Scp) (n : Nat) : List (Key × V) := ((List.range n).filter (alv sc)).map fun (i : Nat) => (Sum.inl (i : Int), oV (undO sc i))
theorem alv_of {sc : List Scp} {i : Nat} {x : Scp} (e : sc[i]? = some x) : alv sc i = x.alive := by unfold alv; rw [e]
theorem undO_of {sc : List Scp} {i : Nat} {x : Scp} (e : sc[i]? = some x) : undO sc i = x.under := by unfold undO; rw [e]
theorem opN_succ (sc : List Scp) (n : Nat) : opN sc (n + 1) = opN sc n ++ if alv sc n = true then [(Sum.inl (n : Int), oV (undO sc n))] else [] := by
  unfold opN
  rw [List.range_succ, List.filter_append, List.map_append]
  congr 1
  cases h : alv sc n <;> simp [List.filter, h]
theorem opN_len (sc : List Scp) (n : Nat) : (opN sc n).length ≤ n := by
  unfold opN
  rw [List.length_map]
  exact Nat.le_trans (List.length_filter_le _ _) (by rw [List.length_range]; exact Nat.le_refl _)
theorem opN_none {sc : List Scp} : ∀ {n : Nat} {j : Int}, (n : Int) ≤ j → valV (opN sc n) (Sum.inl j) = none
  | 0, _, _ => rfl
  | n + 1, j, h => by
    rw [opN_succ]
    split
    · rw [valV_snoc _ _ _ _ (opN_none (Int.le_refl _)), if_neg fun q => ?_]
      · exact opN_none (by omega)
      · have := Sum.inl.inj q
        omega
    · rw [List.append_nil]
      exact opN_none (by omega)
theorem opN_get {sc : List Scp} {i : Nat} (h : alv sc i = true) : ∀ {n : Nat}, i < n → valV (opN sc n) (Sum.inl (i : Int)) = some (oV (undO sc i))
  | 0, hn => by omega
  | n + 1, hn => by
    rw [opN_succ]
    by_cases q : i = n
    · subst q
      rw [if_pos h, valV_snoc _ _ _ _ (opN_none (Int.le_refl _)), if_pos rfl]
    · have ih := opN_get h (n := n) (by omega)
      split
      · rw [valV_snoc _ _ _ _ (opN_none (Int.le_refl _)), if_neg fun z => q (by have := Sum.inl.inj z; omega)]
        exact ih
      · rw [List.append_nil]
        exact ih
theorem opN_put {sc : List Scp} {n : Nat} (h : alv sc n = true) : putK (opN sc n) (Sum.inl (n : Int)) (oV (undO sc n)) = opN sc (n + 1) := by
  rw [putK_new _ (opN_none (Int.le_refl _)), opN_succ, if_pos h]
theorem openS_eq (sc : List Scp) : openS sc = (List.range sc.length).filter (alv sc) := rfl
theorem opN_openS (sc : List Scp) : opN sc sc.length = (openS sc).map fun (i : Nat) => (Sum.inl (i : Int), oV (undO sc i)) := rfl
end K94
set_option maxHeartbeats 4000000
/-! ending things, closing scopes, the open scopes -/
namespace K94
open PySem PySem.Spec PyProof.Rows L2 StX
section
variable {P : Program} {w : World} {K : PySem.W.Frag} {mg : Str → Option Value} {base : Heap} {f : Addr} {fd : FuncData}

def spEnd (K : PySem.W.Frag) (r : Nat) : Sp := fun vs H Q _ => ∃ g H0 A S W k t, vs = [.ref (A.a .self), .int (k : Nat)] ∧ Ctr K g H0 H A S W ∧ WF g S ∧ S.things[k]? = some t ∧ g.M.rk t.name < r ∧ ∀ H', Ctr K g H0 H' A (endF g r S k) W → Tups H H' → Q .non H'
theorem ok_end_thing {k r : Nat} (hk : 10 ≤ k) (F : FnP K "end_thing" "Container.end_thing" s_Container_end_thing f fd) (T : Txt K mg) (p_Book_ends : PR P w K mg base (CBook K) "ends" "b_ends") (m_Parts___getitem__ : GM P w K mg base 3 (CParts K) "__getitem__" P_Parts___getitem__ (spGetPart K))
    (p_Part_life : PR P w K mg base (CPart K) "life" "p_life") (m_Container_end_thing : GM P w K mg base k (CContainer K) "end_thing" P_Container_end_thing (spEnd K r)) : FnOk P w K mg base CX0 (k + 1) f fd P_Container_end_thing (spEnd K (r + 1)) := by
  refine okD F sc_Container_end_thing (fun vs H Q E h => ?_) (fun cdv A outer s H vs Q E hr h => ?_)
  · obtain ⟨_, _, _, _, _, _, _, rfl, _⟩ := h; rfl
  · obtain ⟨g, H0, A, S, W, kk, t, rfl, c, wf, et, hrk, q⟩ := h
    have nd := sc_Container_end_thing.nd
    refine ⟨_, pss_cons (ps_set (i := 2) nd rfl (Or.inl rfl) (pe_ix ix_list (pe_f (pv 0) T.c_Container T.n_Container_c_things) (pv 1) (fun _ _ => rfl)))
    (pss_cons (ps_f (pv 2) (pe_bl) T.c_Thing T.n_Thing_ended)
    (pss_one (ps_if (pt_cmpR op_eq (pe_pr p_Book_ends (hr.mono (by omega)) (pe_f (pv 0) T.c_Container T.n_Container_c_book)) (pe_str) (nomark _))
      (pss_one (ps_for PassesOwn.never rfl (pi_list (pe_f (pv 2) T.c_Thing T.n_Thing_got)) (pg_name (i := 3) nd rfl (Or.inl rfl))
        (pss_one (ps_if (PW.pt (pw_and (pt_cmpR op_notN (pv 3) (pe_non) (nomark _)) (pw_and1 (pt_cmpR op_eq (pe_pr p_Part_life (hr.mono (by omega)) (pe_own_get m_Parts___getitem__ T.fk (hr.mono (by omega)) (pe_f (pv 0) T.c_Container T.n_Container_c_parts) (pe_f (pe_ix ix_list (pe_f (pv 0) T.c_Container T.n_Container_c_things) (pv 3) (fun _ _ => rfl)) T.c_Thing T.n_Thing_name))) (pe_gi T.i_USE) (nomark _)))))
          (pss_one (ps_expr (pe_m m_Container_end_thing hr (pv 0) (pa_cons (pv 3) pa_nil))))
          (pss_nil)))))
      (pss_nil)))), ?_⟩
    obtain ⟨dxb, tb, bk⟩ := c.book
    have cm := wf.th et
    obtain ⟨pr, hpr⟩ := some_of cm.nm
    refine ⟨_, rfl, _, _, _, _, rfl, c.self, lk_Container_c_things, _, rfl, _, _, _, _, rfl, rfl, SqL.of c.things, c.sthing et, ?_⟩
    refine ⟨_, rfl, _, _, _, rfl, c.thing et, len_Thing, ?_⟩
    have c1 := c.wEnd et
    have tu1 : Tups H (upd H (A.a (.thing kk)) (.ins (CThing K) (A.d (.thing kk)) (thingFs A kk { t with ended := true }))) := c.tups (.thing kk) (o := .ins (CThing K) (A.d (.thing kk)) (thingFs A kk t)) (by show S.things[kk]?.map _ = _; rw [et]; rfl) True.intro
    have epf : putF "ended" (.bl true) (thingFs A kk t) = thingFs A kk { t with ended := true } := pf_Thing_ended
    rw [epf]
    generalize upd H (A.a (.thing kk)) (.ins (CThing K) (A.d (.thing kk)) (thingFs A kk { t with ended := true })) = H1 at c1 tu1 ⊢
    have e1 : EndLe S (S.setT kk { t with ended := true }) := end_set et true
    have et1 : (S.setT kk { t with ended := true }).things[kk]? = some { t with ended := true } := set_here et
    rw [endF_succ g r et] at q
    obtain ⟨dxb1, tb1, bk1⟩ := c1.book
    refine ⟨_, rfl, _, _, _, _, rfl, c1.self, lk_Container_c_book, _, _, _, _, rfl, bk1.self, lk_Book_b_ends, rfl, _, rfl, ?_⟩
    refine ite2 (fun h => ?_) (fun h => ?_)
    · have h : g.bk.ends = "holder" := str_iff.mp (of_decide_eq_true h)
      rw [if_pos h] at q
      refine ⟨_, rfl, _, _, _, _, rfl, c1.thing et1, lk_Thing_got, _, rfl, ⟨_, SqL.of (c1.got et1)⟩, for_list (K := K) (a := A.a (.got kk)) (xs := t.got.map oV)
        (fun i σ H' => ∃ v3, σ = [some (.ref (A.a .self)), some (.int (kk : Nat)), some (.ref (A.a (.thing kk))), v3] ∧ Ctr K g H0 H' A ((t.got.take i).foldl (endStep g (endF g r)) (S.setT kk { t with ended := true })) W ∧ Tups H1 H')
        ⟨none, rfl, c1, Tups.refl H1⟩ ?_ ?_ ?_⟩
      · rintro i σ H' hi ⟨v3, rfl, c', tu'⟩
        have ei : EndLe S ((t.got.take i).foldl (endStep g (endF g r)) (S.setT kk { t with ended := true })) := e1.trans (foldl_keep (P := EndLe) EndLe.refl (fun _ _ _ => EndLe.trans) (step_end (end_le g r)) _ _)
        obtain ⟨b, hb⟩ := ei.th kk t et
        have z := c'.got hb
        exact SqL.of z
      · rintro i x σ H' hi ⟨v3, rfl, c', tu'⟩
        rw [List.getElem?_map] at hi
        obtain ⟨o, ho, rfl⟩ := Option.map_eq_some_iff.mp hi
        rw [take_succ (f := endStep g (endF g r)) ho]
        have ei : EndLe S ((t.got.take i).foldl (endStep g (endF g r)) (S.setT kk { t with ended := true })) := e1.trans (foldl_keep (P := EndLe) EndLe.refl (fun _ _ _ => EndLe.trans) (step_end (end_le g r)) _ _)
        have wfi := ei.wf wf
        generalize (t.got.take i).foldl (endStep g (endF g r)) (S.setT kk { t with ended := true }) = Si at c' ei wfi ⊢
        cases o with
        | none => exact ⟨_, rfl, rfl, _, rfl, iteF ⟨_, rfl, c', tu'⟩⟩
        | some j =>
          obtain ⟨wt, hwt, hgo⟩ := Paired.get cm.got ho
          obtain ⟨tj0, hj0, hn0⟩ := hgo j rfl
          obtain ⟨bj, hj⟩ := ei.th j tj0 hj0
          have hwm : wt ∈ pr.wants := by
            have := List.mem_of_getElem? hwt
            unfold heldW at this
            rw [wants_of hpr] at this
            exact (List.mem_filter.mp this).1
          have hd := c.st.mok.down t.name pr hpr wt hwm
          obtain ⟨pj, hpj⟩ := some_of hd.1
          obtain ⟨dxp, gd, kvs, pt⟩ := c'.parts
          have en : Si.tname j = wt.2 := by unfold Cor.tname; rw [hj]; exact hn0
          have hst : endStep g (endF g r) Si (some j) = if pj.life = -1 then endF g r Si j else Si := by
            show (if g.M.life (Si.tname j) = -1 then _ else _) = _
            rw [en, life_of hpj]
          rw [hst]
          refine ⟨_, rfl, rfl, _, rfl, iteT ⟨_, rfl, _, _, _, _, rfl, c'.self, lk_Container_c_parts, _, rfl, _, _, _, _, rfl, c'.self, lk_Container_c_things, _, rfl, _, _, _, _, rfl, rfl, SqL.of c'.things, c'.sthing hj, _, _, _, _, rfl, c'.thing hj, lk_Thing_name, _, _, _, rfl, pt.self, g.pa, g.M, dxp, gd, kvs, tj0.name, pj, rfl, pt, by rw [hn0]; exact hpj, fun v hv => ?_⟩⟩
          obtain ⟨ap, dxa, tw, ws, rfl, hap, _, _⟩ := hv
          refine ⟨_, _, _, _, rfl, hap, lk_Part_p_life, rfl, _, rfl, ?_⟩
          refine ite2 (fun h => ?_) (fun h => ?_)
          · have h : pj.life = -1 := int_iff.mp (of_decide_eq_true h)
            rw [if_pos h]
            refine ⟨_, rfl, _, _, _, rfl, c'.self, no_Container_end_thing, _, rfl, g, H0, A, Si, W, j, _, rfl, c', wfi, hj, ?_, fun H2 c2 tu2 => ⟨_, rfl, c2, tu'.trans tu2⟩⟩
            show g.M.rk tj0.name < r
            rw [hn0]
            omega
          · have h : ¬ pj.life = -1 := fun z => h (decide_eq_true (by rw [z]))
            rw [if_neg h]
            exact ⟨_, rfl, c', tu'⟩
      · rintro σ H' ⟨v3, rfl, c', tu'⟩
        rw [List.length_map, List.take_length] at c'
        exact q H' c' (tu1.trans tu')
    · have h : ¬ g.bk.ends = "holder" := fun z => h (decide_eq_true (by rw [z]))
      rw [if_neg h] at q
      exact q H1 c1 tu1

def spScopes (K : PySem.W.Frag) : Sp := fun vs H Q _ => ∃ g H0 A S W, vs = [.ref (A.a .self)] ∧ Ctr K g H0 H A S W ∧ S.scopes.length ≤ 1000 ∧ ∀ D H', Same H H' → H D = none → H' D = some (.dK (opN S.scopes S.scopes.length)) → Q (.ref D) H'
theorem ok_scopes (F : FnP K "scopes" "Container.scopes" s_Container_scopes f fd) (T : Txt K mg) : FnOk P w K mg base CX0 1 f fd P_Container_scopes (spScopes K) := by
  refine okD F sc_Container_scopes (fun vs H Q E h => ?_) (fun cdv A outer s H vs Q E hr h => ?_)
  · obtain ⟨_, _, _, _, _, rfl, _⟩ := h; rfl
  · obtain ⟨g, H0, A, S, W, rfl, c, hz, q⟩ := h
    have nd := sc_Container_scopes.nd
    refine ⟨_, pss_one (ps_ret (pe_lock (pe_dc (own := [("one", 1)]) (g := gName 1) rfl nd (pi_keys (pe_f (pv 0) T.c_Container T.n_Container_c_scopes)) (blkOk_by (N := N_Container_scopes) (sc := defScope s_Container_scopes) (own := [("one", 1)]) (by decide +kernel)) (fun _ _ _ _ _ => pg_name (i := 1) nd rfl (Or.inl rfl)) (fun _ _ _ _ _ => pts_one (pt_val (pe_f (pe_dget (hu_of hr) (pe_f (pv 0) T.c_Container T.n_Container_c_scopes) (pv 1) (fun _ _ => rfl)) T.c_Scope T.n_Scope_alive))) (fun _ _ _ _ _ => pv 1) (fun _ _ _ _ _ => pe_f (pe_dget (hu_of hr) (pe_f (pv 0) T.c_Container T.n_Container_c_scopes) (pv 1) (fun _ _ => rfl)) T.c_Scope T.n_Scope_under)))), ?_⟩
    refine ⟨A.a .scopes, _, c.scopes, True.intro, fun od => ?_⟩
    generalize hd : A.a .scopes = d
    have hdn := c.scopes
    rw [hd] at hdn
    have k0 : ∀ b o, b ≠ d → H b = some o → upd H d (.frz od (.dK (scDict A S.scopes.length))) b = some o := fun b o hb e => by rw [upd_ne hb]; exact e
    have nself : A.a .self ≠ d := ne_of c.self hdn (by intro z; cases z)
    refine ⟨_, rfl, _, _, _, _, rfl, k0 _ _ nself c.self, lk_Container_c_scopes, d, od, by rw [← hd], .inl ⟨scDict A S.scopes.length, upd_same, ?_⟩⟩
    intro D hD
    have hDd : D ≠ d := fun z => by rw [z, upd_same] at hD; cases hD
    have hD0 : H D = none := by rw [upd_ne hDd] at hD; exact hD
    refine dc_it walk_keys (fun i H' => H' d = some (.frz od (.dK (scDict A S.scopes.length))) ∧ (∀ b o, b ≠ d → H b = some o → H' b = some o) ∧ H' D = some (.dK (opN S.scopes i)))
      ⟨by rw [upd_ne (Ne.symm hDd), upd_same], fun b o hb e => by rw [upd_ne (ne_of_none e hD0)]; exact k0 b o hb e, upd_same⟩ (fun i H' _ h => h.1) ?_ ?_
    · rintro i x H' H'' hi ⟨h1, h2, h3⟩ ⟨rfl, k, v, hk, rfl⟩
      rw [scDict_len] at hi
      have hx : (scDict A S.scopes.length)[i]? = some (Sum.inl (i : Int), V.ref (A.a (.scope i))) := by
        unfold scDict
        rw [List.getElem?_map, List.getElem?_range hi]
        rfl
      rw [hx] at hk
      cases hk
      have ex := List.getElem?_eq_getElem hi
      have dg : DGet H'' d (.int (i : Nat)) (some (.ref (A.a (.scope i)))) := dget_fi h1 (scDict_get hi)
      have hsc := c.scope ex
      have nsc : A.a (.scope i) ≠ d := ne_of hsc hdn (by intro z; cases z)
      have hs := h2 _ _ nself c.self
      refine ⟨rfl, _, rfl, _, _, _, _, rfl, hs, lk_Container_c_scopes, _, rfl, _, _, by rw [hd], dg, _, _, _, _, rfl, h2 _ _ nsc hsc, lk_Scope_alive, _, rfl, ?_⟩
      have al := alv_of ex
      have un := undO_of ex
      cases hal : (S.scopes[i]).alive with
      | false =>
        rw [hal] at al
        refine iteF ⟨h1, h2, ?_⟩
        rw [opN_succ, al, if_neg (by decide), List.append_nil]
        exact h3
      | true =>
        rw [hal] at al
        refine iteT ⟨_, rfl, _, rfl, _, _, _, _, rfl, hs, lk_Container_c_scopes, _, rfl, _, _, by rw [hd], dg, _, _, _, _, rfl, h2 _ _ nsc hsc, lk_Scope_under, opN S.scopes i, Sum.inl (i : Int), rfl, h3, small1000 (Nat.le_trans (opN_len _ _) (by omega)), ?_⟩
        rw [← un, opN_put al]
        exact ⟨by rw [upd_ne (Ne.symm hDd)]; exact h1, fun b o hb e => by rw [upd_ne (ne_of_none e hD0)]; exact h2 b o hb e, upd_same⟩
    · rintro H' ⟨h1, h2, h3⟩
      rw [scDict_len] at h3
      refine ⟨h1, q D _ (fun b o e => ?_) hD0 (by rw [upd_ne hDd]; exact h3)⟩
      by_cases hb : b = d
      · subst hb
        rw [upd_same, ← e, hdn]
      · rw [upd_ne hb]
        exact h2 b o hb e

def quiet (S : Cor) (W : Wks) : Bool := decide ((openS S.scopes).length = 1 ∧ W.ws.isEmpty = true)
def spQuiet (K : PySem.W.Frag) : Sp := fun vs H Q _ => ∃ g H0 A S W, vs = [.ref (A.a .self)] ∧ Ctr K g H0 H A S W ∧ S.scopes.length ≤ 1000 ∧ ∀ H', Same H H' → Q (.bl (quiet S W)) H'
theorem ok_is_quiet (F : FnP K "is_quiet" "Container.is_quiet" s_Container_is_quiet f fd) (T : Txt K mg) (p_Container_scopes : GP P w K mg base 1 (CContainer K) "scopes" (spScopes K)) : FnOk P w K mg base CX0 3 f fd P_Container_is_quiet (spQuiet K) := by
  refine okD F sc_Container_is_quiet (fun vs H Q E h => ?_) (fun cdv A outer s H vs Q E hr h => ?_)
  · obtain ⟨_, _, _, _, _, rfl, _⟩ := h; rfl
  · obtain ⟨g, H0, A, S, W, rfl, c, hz, q⟩ := h
    refine ⟨_, pss_one (ps_ret (pe_and (pe_cmpR op_eq (pe_callB call_lenD (by rfl) T.f_len (by decide +kernel) (pa_cons (pe_p p_Container_scopes (hr.mono (by decide)) (pv 0)) pa_nil)) (pe_int) (nomark _)) (pe_one (pe_cmpR op_eq (pe_callB call_lenD (by rfl) T.f_len (by decide +kernel) (pa_cons (pe_f (pv 0) T.c_Container T.n_Container_c_works) pa_nil)) (pe_int) (nomark _))))), ?_⟩
    refine ⟨_, rfl, _, _, _, rfl, c.self, g, H0, A, S, W, rfl, c, hz, fun D H' sm _ hD => ?_⟩
    have c' := c.grow sm
    have el : (opN S.scopes S.scopes.length).length = (openS S.scopes).length := by rw [opN_openS, List.length_map]
    refine ⟨_, _, rfl, hD, rfl, _, rfl, ?_⟩
    rw [el]
    have qq := q H' sm
    refine ite2 (fun h => ?_) (fun h => ?_)
    · have h : (openS S.scopes).length = 1 := by have := int_iff.mp (of_decide_eq_true h); omega
      refine ⟨_, rfl, _, _, _, _, rfl, c'.self, lk_Container_c_works, _, _, rfl, c'.works, rfl, ?_⟩
      have lw : (wkDict W.ws A.wv).length = W.ws.length := by
        have hp := c.wks
        generalize W.ws = l1 at hp ⊢
        generalize A.wv = l2 at hp ⊢
        induction hp with
        | nil => rfl
        | cons _ _ ih => exact congrArg Nat.succ ih
      rw [lw]
      have e2 : decide (V.int (W.ws.length : Nat) = V.int 0) = quiet S W := by
        unfold quiet
        rw [decide_eq_decide]
        rw [int_iff]
        constructor
        · intro z
          exact ⟨h, by rw [List.isEmpty_iff_length_eq_zero]; omega⟩
        · rintro ⟨_, z⟩
          rw [List.isEmpty_iff_length_eq_zero] at z
          omega
      rw [e2]
      exact qq
    · have h : ¬ (openS S.scopes).length = 1 := fun z => h (decide_eq_true (by rw [z]; rfl))
      have e2 : quiet S W = false := decide_eq_false fun z => h z.1
      rw [e2] at qq
      exact qq
end
end K94
set_option maxHeartbeats 4000000
/-! the attached things -/
namespace K94
open PySem PySem.Spec PyProof.Rows L2 StX
/-- numbers apart, all below n, are at most n -/
theorem few_below : ∀ (n : Nat) (l : List Nat), l.Nodup → (∀ x ∈ l, x < n) → l.length ≤ n
  | 0, l, _, h => by
    cases l with
    | nil => exact Nat.le_refl _
    | cons a l => exact absurd (h a List.mem_cons_self) (Nat.not_lt_zero _)
  | n + 1, l, hd, h => by
    by_cases q : n ∈ l
    · have h1 := few_below n (l.erase n) (hd.erase n) fun x hx => by
        have h2 := (List.Nodup.mem_erase_iff hd).mp hx
        have h3 := h x h2.2
        have h4 := h2.1
        omega
      rw [List.length_erase_of_mem q] at h1
      omega
    · have h1 := few_below n l hd fun x hx => by
        have h3 := h x hx
        have h4 : x ≠ n := fun z => q (z ▸ hx)
        omega
      omega
theorem nd1 (n : Nat) : [n].Nodup := List.nodup_cons.mpr ⟨List.not_mem_nil, List.nodup_nil⟩
def rootB (g : Gam) (T : List Thg) (k : Nat) : Bool := match T[k]? with | some t => decide (t.home = 0 ∧ g.M.life t.name ≠ -1) | none => false
def rootsN (g : Gam) (T : List Thg) (n : Nat) : List Nat := (List.range n).filter (rootB g T)
theorem rootsN_succ (g : Gam) (T : List Thg) (n : Nat) : rootsN g T (n + 1) = rootsN g T n ++ if rootB g T n = true then [n] else [] := by
  unfold rootsN
  rw [List.range_succ, List.filter_append]
  congr 1
  cases h : rootB g T n <;> simp [List.filter, h]
def iN (l : List Nat) : List V := l.map fun (n : Nat) => V.int n
def iZ (l : List Nat) : List Int := l.map fun (n : Nat) => (n : Int)
theorem iN_iZ (l : List Nat) : iN l = (iZ l).map V.int := by unfold iN iZ; rw [List.map_map]; rfl
def fsD (l : List Nat) : List (Key × V) := l.map fun (n : Nat) => (Sum.inl (n : Int), V.bl true)
theorem fsD_get (l : List Nat) (k : Nat) : valV (fsD l) (Sum.inl (k : Int)) = if k ∈ l then some (.bl true) else none := by
  induction l with
  | nil => rfl
  | cons a l ih =>
    have e : fsD (a :: l) = (Sum.inl (a : Int), V.bl true) :: fsD l := rfl
    rw [e]
    by_cases q : a = k
    · rw [valV_pos (by show (Sum.inl (a : Int) : Key) = Sum.inl (k : Int); rw [q]), if_pos (by rw [q]; exact List.mem_cons_self)]
    · rw [valV_neg fun z => q (by have := Sum.inl.inj z; omega), ih]
      by_cases z : k ∈ l
      · rw [if_pos z, if_pos (List.mem_cons_of_mem _ z)]
      · rw [if_neg z, if_neg fun u => (List.mem_cons.mp u).elim (fun v => q v.symm) z]
theorem fsD_put {l : List Nat} {k : Nat} (h : k ∉ l) : putK (fsD l) (Sum.inl (k : Int)) (.bl true) = fsD (l ++ [k]) := by
  rw [putK_new _ (by rw [fsD_get, if_neg h])]
  unfold fsD
  rw [List.map_append]
  rfl
theorem fsD_len (l : List Nat) : (fsD l).length = l.length := List.length_map _
theorem att_lt {g : Gam} {S : Cor} (wf : WF g S) {k : Nat} (h : Att g S.things k) : k < S.things.length := by
  cases h with
  | root e _ _ => exact (List.getElem?_eq_some_iff.mp e).1
  | held _ e hj =>
    rename_i j t _
    obtain ⟨i, hi⟩ := List.getElem?_of_mem hj
    obtain ⟨w, _, hg⟩ := Paired.get (wf.th e).got hi
    obtain ⟨t', h1, _⟩ := hg _ rfl
    exact (List.getElem?_eq_some_iff.mp h1).1
theorem rootB_iff {g : Gam} {T : List Thg} {k : Nat} : rootB g T k = true ↔ ∃ t, T[k]? = some t ∧ t.home = 0 ∧ g.M.life t.name ≠ -1 := by
  unfold rootB
  cases e : T[k]? with
  | none => exact ⟨fun h => (by cases h), fun ⟨t, h, _⟩ => (by cases h)⟩
  | some t => exact ⟨fun h => ⟨t, rfl, of_decide_eq_true h⟩, fun ⟨t', h, q⟩ => by cases h; exact decide_eq_true q⟩
def gotN (l : List (Option Nat)) : List Nat := l.filterMap id
theorem gotN_succ {l : List (Option Nat)} {i : Nat} {o : Option Nat} (h : l[i]? = some o) : gotN (l.take (i + 1)) = gotN (l.take i) ++ o.toList := by
  unfold gotN
  rw [List.take_add_one, h, List.filterMap_append]
  cases o <;> rfl
theorem gotN_mem {l : List (Option Nat)} {j : Nat} : j ∈ gotN l ↔ some j ∈ l := by
  unfold gotN
  rw [List.mem_filterMap]
  exact ⟨fun ⟨a, h, e⟩ => by have e : a = some j := e; rw [← e]; exact h, fun h => ⟨_, h, rfl⟩⟩
theorem gotN_len (l : List (Option Nat)) : (gotN l).length ≤ l.length := List.length_filterMap_le _ _
section
variable {P : Program} {w : World} {K : PySem.W.Frag} {mg : Str → Option Value} {base : Heap} {f : Addr} {fd : FuncData}
def spAttached (K : PySem.W.Frag) : Sp := fun vs H Q _ => ∃ g H0 A S W, vs = [.ref (A.a .self)] ∧ Ctr K g H0 H A S W ∧ WF g S ∧ sz S ≤ BIG ∧ ∀ D fs H', Same H H' → H D = none → H' D = some (.dK (fsD fs)) → (∀ k, k ∈ fs ↔ Att g S.things k) → Q (.ref D) H'
theorem ok_attached (F : FnP K "attached" "Container.attached" s_Container_attached f fd) (T : Txt K mg) (m_Parts___getitem__ : GM P w K mg base 3 (CParts K) "__getitem__" P_Parts___getitem__ (spGetPart K)) (p_Part_life : PR P w K mg base (CPart K) "life" "p_life") :
    FnOk P w K mg base CX0 6 f fd P_Container_attached (spAttached K) := by
  refine okD F sc_Container_attached (fun vs H Q E h => ?_) (fun cdv A outer s H vs Q E hr h => ?_)
  · obtain ⟨_, _, _, _, _, rfl, _⟩ := h; rfl
  · obtain ⟨g, H0, A, S, W, rfl, c, wf, hz, q⟩ := h
    have nd := sc_Container_attached.nd
    refine ⟨_, pss_cons (ps_set (i := 1) nd rfl (Or.inl rfl) (pe_dnewK))
    (pss_cons (ps_setLc (i := 2) (own := [("number", 3), ("thing", 4)]) (g := gTup K 2 (gCons (gName 3) (gCons (gName 4) gNil))) rfl nd rfl rfl (sw_true rfl rfl rfl (by decide +kernel)) (pi_enum (by rfl) T.f_enumerate (pa_cons (pe_f (pv 0) T.c_Container T.n_Container_c_things) pa_nil)) (blkOk_by (N := N_Container_attached) (sc := defScope s_Container_attached) (own := [("number", 3), ("thing", 4)]) (by decide +kernel)) (fun _ _ _ _ _ => pg_tup rfl (pgs_cons (pg_name (i := 3) nd rfl (Or.inl rfl)) (pgs_cons (pg_name (i := 4) nd rfl (Or.inl rfl)) pgs_nil))) (fun _ _ _ _ _ => pts_one (PW.pt (pw_and (pt_cmpR op_eq (pe_f (pv 4) T.c_Thing T.n_Thing_home) (pe_int) (nomark _)) (pw_and1 (pt_cmpR op_ne (pe_pr p_Part_life (hr.mono (by decide)) (pe_own_get m_Parts___getitem__ T.fk (hr.mono (by decide)) (pe_f (pv 0) T.c_Container T.n_Container_c_parts) (pe_f (pv 4) T.c_Thing T.n_Thing_name))) (pe_gi T.i_USE) (nomark _)))))) (fun _ _ _ _ _ => pv 3))
    (pss_cons (ps_while PassesOwn.never (pt_cmpR (op_neD hr.units) (pv 2) (pe_lst (pa_nil)) (nomark _))
      (pss_cons (ps_set (i := 3) nd rfl (Or.inl rfl) (pe_bm0 PySem.F.plainAttrs_list PySem.F.slot_list_pop PySem.F.type_list_pop mt_pop (pv 2)))
      (pss_one (ps_if (pt_cmp (pc_dnotin (hu_of hr) (pv 3) (pv 1)))
        (pss_cons (ps_dput (hu_of hr) (pv 1) (pv 3) (pe_bl) rfl)
        (pss_one (ps_set (i := 2) nd rfl (Or.inl rfl) (pe_op op_cat (pv 2) (pe_lc (own := [("held", 5)]) (g := gName 5) rfl nd (pi_list (pe_f (pe_ix ix_list (pe_f (pv 0) T.c_Container T.n_Container_c_things) (pv 3) (fun _ _ => rfl)) T.c_Thing T.n_Thing_got)) (blkOk_by (N := N_Container_attached) (sc := defScope s_Container_attached) (own := [("held", 5)]) (by decide +kernel)) (fun _ _ _ _ _ => pg_name (i := 5) nd rfl (Or.inl rfl)) (fun _ _ _ _ _ => pts_one (pt_cmpR op_notN (pv 5) (pe_non) (nomark _))) (fun _ _ _ _ _ => pv 5))))))
        (pss_nil)))))
    (pss_one (ps_ret (pv 1))))), ?_⟩
    have hT : S.things.length ≤ BIG := Nat.le_trans (by unfold sz; omega) hz
    -- found = {}
    intro D nD
    have s0 : Same H (upd H D (.dK [])) := Same.new nD
    have c0 := c.grow s0
    -- left = [..]
    refine ⟨_, rfl, _, _, _, _, rfl, c0.self, lk_Container_c_things, _, _, rfl, SqL.of c0.things, fun L hL => ?_⟩
    have nDL : D ≠ L := fun z => by rw [z, upd_same] at hL; cases hL
    refine lc_it walk_enum (fun i H' => Same (upd H D (.dK [])) H' ∧ H' L = some (.lst (iN (rootsN g S.things i)))) ⟨Same.new hL, upd_same⟩ (fun i H' _ h => SqL.of (c0.grow h.1).things) ?_ ?_
    · rintro i x H' H'' hi ⟨h1, h2⟩ ⟨Tt, x1, x2, rfl, nT, rfl, e1, e2⟩
      cases e1
      rw [thRefs_len] at hi
      dsimp only at e2
      rw [thRefs_get hi] at e2
      cases e2
      have et := List.getElem?_eq_getElem hi
      have nLT : L ≠ Tt := ne_of_none h2 nT
      have s1 : Same H' (upd H' Tt (.tup [.int (i : Nat), .ref (A.a (.thing i))])) := Same.new nT
      have c1 := c0.grow (h1.trans s1)
      obtain ⟨pr, hpr⟩ := some_of (wf.th et).nm
      obtain ⟨dxp, gd, kvs, pt⟩ := c1.parts
      have hroot : rootB g S.things i = decide (S.things[i].home = 0 ∧ pr.life ≠ -1) := by unfold rootB; rw [et]; show decide (_ ∧ g.M.life S.things[i].name ≠ -1) = _; rw [life_of hpr]
      refine ⟨Tt, _, rfl, SqT.of upd_same, rfl, _, _, rfl, _, _, rfl, rfl, rfl, ?_⟩
      refine ⟨_, rfl, _, _, _, _, rfl, c1.thing et, lk_Thing_home, rfl, _, rfl, ?_⟩
      have fin0 : rootB g S.things i = false → Same (upd H D (.dK [])) (upd H' Tt (.tup [.int (i : Nat), .ref (A.a (.thing i))])) ∧ (upd H' Tt (.tup [.int (i : Nat), .ref (A.a (.thing i))])) L = some (.lst (iN (rootsN g S.things (i + 1)))) := fun z => by
        rw [rootsN_succ, z, if_neg (by decide), List.append_nil, upd_ne nLT]
        exact ⟨h1.trans s1, h2⟩
      by_cases hh : S.things[i].home = 0
      · rw [decide_eq_true (show V.int (S.things[i].home : Nat) = V.int 0 by rw [hh]; rfl)]
        refine iteT ⟨_, rfl, _, _, _, _, rfl, c1.self, lk_Container_c_parts, _, rfl, _, _, _, _, rfl, c1.thing et, lk_Thing_name, _, _, _, rfl, pt.self, g.pa, g.M, dxp, gd, kvs, _, pr, rfl, pt, hpr, fun v hv => ?_⟩
        obtain ⟨ap, dxa, tw, ws, rfl, hap, _, _⟩ := hv
        refine ⟨_, _, _, _, rfl, hap, lk_Part_p_life, rfl, _, rfl, ?_⟩
        by_cases hl : pr.life = -1
        · rw [decide_eq_true (show V.int pr.life = V.int (-1) by rw [hl])]
          exact iteF (fin0 (by rw [hroot]; exact decide_eq_false fun z => z.2 hl))
        · rw [decide_eq_false fun z => hl (int_iff.mp z)]
          have hr1 : rootB g S.things i = true := by rw [hroot]; exact decide_eq_true ⟨hh, hl⟩
          refine iteT ⟨_, rfl, _, (s1 _ _ h2), ?_, ?_, ?_⟩
          · unfold iN rootsN
            rw [List.length_map]
            refine sline (Nat.le_trans (List.length_filter_le _ _) ?_)
            rw [List.length_range]
            omega
          · exact fun b o e => by
              rw [upd_ne (ne_of_none e hL)]
              exact (h1.trans s1) b o e
          · rw [upd_same, rootsN_succ, hr1, if_pos rfl]
            unfold iN
            rw [List.map_append]
            rfl
      · rw [decide_eq_false fun z => hh (by have := int_iff.mp z; omega)]
        exact iteF (fin0 (by rw [hroot]; exact decide_eq_false fun z => hh z.1))
    · rintro H1 ⟨h1, h2⟩
      rw [thRefs_len] at h2
      -- the while
      refine ⟨fun m σ H' => ∃ (lv : Addr) (v3 : Option V) (ns fs : List Nat), σ = [some (.ref (A.a .self)), some (.ref D), some (.ref lv), v3, none, none] ∧ Same H H' ∧ H' D = some (.dK (fsD fs)) ∧ H' lv = some (.lst (iN ns)) ∧ D ≠ lv ∧ H lv = none ∧
          (∀ k ∈ ns, Att g S.things k) ∧ fs.Nodup ∧ (∀ k ∈ fs, Att g S.things k) ∧ (∀ k, rootB g S.things k = true → k ∈ ns ∨ k ∈ fs) ∧ (∀ k ∈ fs, ∀ t j, S.things[k]? = some t → some j ∈ t.got → j ∈ ns ∨ j ∈ fs) ∧
          m = (S.things.length - fs.length) * 6 + ns.length ∧ m ≤ S.things.length * 7, ?_, ?_⟩
      · refine ⟨_, L, none, rootsN g S.things S.things.length, [], rfl, s0.trans h1, h1 _ _ upd_same, h2, nDL, s0.free hL, fun k hk => ?_, List.nodup_nil, (fun k hk => by cases hk), fun k hk => .inl ?_, (fun k hk => by cases hk), rfl, ?_⟩
        · obtain ⟨t, a, b, c⟩ := rootB_iff.mp (List.mem_filter.mp hk).2
          exact .root a b c
        · obtain ⟨t, a, _⟩ := rootB_iff.mp hk
          exact List.mem_filter.mpr ⟨List.mem_range.mpr (List.getElem?_eq_some_iff.mp a).1, hk⟩
        · have : (rootsN g S.things S.things.length).length ≤ S.things.length := by
            unfold rootsN
            refine Nat.le_trans (List.length_filter_le _ _) ?_
            rw [List.length_range]
            exact Nat.le_refl _
          simp only [List.length_nil, Nat.sub_zero]
          omega
      · rintro m σ H' ⟨lv, v3, ns, fs, rfl, sm, hD, hlv, nDl, nlv, i1, i2, i3, i4, i5, rfl, hm⟩
        refine ⟨_, rfl, Nat.zero_le _, fun p hp => ?_⟩
        have s2 : Same H' (upd H' p (.lst [])) := Same.new hp
        have hlv2 := s2 _ _ hlv
        have hD2 := s2 _ _ hD
        have npl : p ≠ lv := fun z => by rw [z, hlv] at hp; cases hp
        refine ne_nil (ns := iZ ns) (SqL.of (by rw [← iN_iZ]; exact hlv2)) (SqL.of upd_same) ⟨_, rfl, ?_⟩
        have sm2 := sm.trans s2
        generalize upd H' p (.lst []) = H2 at *
        rcases List.eq_nil_or_concat ns with rfl | ⟨ini, n, rfl⟩
        · refine iteF ⟨_, rfl, q D fs H2 sm2 nD hD2 fun k => ⟨i3 k, fun h => ?_⟩⟩
          induction h with
          | root e h1 h2 => exact (i4 _ (rootB_iff.mpr ⟨_, e, h1, h2⟩)).elim (fun z => by cases z) id
          | held _ e hj ih => exact (i5 _ ih _ _ e hj).elim (fun z => by cases z) id
        · rw [List.concat_eq_append] at *
          have hne : (!(iZ (ini ++ [n])).isEmpty) = true := by unfold iZ; rw [List.map_append]; cases ini <;> rfl
          rw [hne]
          have an : Att g S.things n := i1 n (List.mem_append_right _ (List.mem_singleton.mpr rfl))
          have hnl := att_lt wf an
          have et := List.getElem?_eq_getElem hnl
          have einit : iN (ini ++ [n]) = iN ini ++ [.int (n : Nat)] := by unfold iN; rw [List.map_append]; rfl
          rw [einit] at hlv2
          refine iteT ⟨fun σ' H'' => ∃ m', m' < (S.things.length - fs.length) * 6 + (ini ++ [n]).length ∧ ∃ (lv : Addr) (v3 : Option V) (ns fs : List Nat), σ' = [some (.ref (A.a .self)), some (.ref D), some (.ref lv), v3, none, none] ∧ Same H H'' ∧ H'' D = some (.dK (fsD fs)) ∧ H'' lv = some (.lst (iN ns)) ∧ D ≠ lv ∧ H lv = none ∧
            (∀ k ∈ ns, Att g S.things k) ∧ fs.Nodup ∧ (∀ k ∈ fs, Att g S.things k) ∧ (∀ k, rootB g S.things k = true → k ∈ ns ∨ k ∈ fs) ∧ (∀ k ∈ fs, ∀ t j, S.things[k]? = some t → some j ∈ t.got → j ∈ ns ∨ j ∈ fs) ∧
            m' = (S.things.length - fs.length) * 6 + ns.length ∧ m' ≤ S.things.length * 7, fun _ _ z => z, ?_⟩
          refine ⟨_, rfl, .inl ⟨rfl, _, SqL.of hlv2⟩, _, _, .int (n : Nat), rfl, rfl, hlv2, by rw [List.length_append, List.length_singleton]; simp, ?_⟩
          rw [List.dropLast_concat]
          have s3 : Same H (upd H2 lv (.lst (iN ini))) := fun b o e => by rw [upd_ne (ne_of_none e nlv)]; exact sm2 b o e
          have hD3 : (upd H2 lv (.lst (iN ini))) D = some (.dK (fsD fs)) := by rw [upd_ne nDl]; exact hD2
          have hlv3 : (upd H2 lv (.lst (iN ini))) lv = some (.lst (iN ini)) := upd_same
          generalize upd H2 lv (.lst (iN ini)) = H3 at *
          have c3 := c.grow s3
          refine ⟨_, rfl, _, rfl, _, _, rfl, dget_i hD3, _, rfl, ?_⟩
          rw [fsD_get]
          have hlen : (ini ++ [n]).length = ini.length + 1 := by rw [List.length_append, List.length_singleton]
          by_cases hin : n ∈ fs
          · rw [if_pos hin]
            refine iteF ⟨_, ?_, lv, _, ini, fs, rfl, s3, hD3, hlv3, nDl, nlv, fun k hk => i1 k (List.mem_append_left _ hk), i2, i3, fun k hk => ?_, fun k hk t j e hj => ?_, rfl, ?_⟩
            · rw [hlen]; omega
            · rcases i4 k hk with z | z
              · rcases List.mem_append.mp z with z | z
                · exact .inl z
                · rw [List.mem_singleton.mp z]; exact .inr hin
              · exact .inr z
            · rcases i5 k hk t j e hj with z | z
              · rcases List.mem_append.mp z with z | z
                · exact .inl z
                · rw [List.mem_singleton.mp z]; exact .inr hin
              · exact .inr z
            · rw [hlen] at hm; omega
          · rw [if_neg hin]
            have hfl : (fs ++ [n]).length ≤ S.things.length := few_below _ _ (List.nodup_append.mpr ⟨i2, nd1 n, fun a ha b hb z => hin (by rw [List.mem_singleton.mp hb] at z; rw [← z]; exact ha)⟩) fun k hk => by
              rcases List.mem_append.mp hk with z | z
              · exact att_lt wf (i3 k z)
              · rw [List.mem_singleton.mp z]; exact hnl
            rw [List.length_append, List.length_singleton] at hfl
            refine iteT ⟨_, rfl, _, rfl, _, _, rfl, DPut.k (k := Sum.inl (n : Int)) hD3 (by rw [fsD_len]; exact sline (by omega)), ?_⟩
            rw [fsD_put hin]
            have s4 : Same H (upd H3 D (.dK (fsD (fs ++ [n])))) := fun b o e => by rw [upd_ne (ne_of_none e nD)]; exact s3 b o e
            have hD4 : (upd H3 D (.dK (fsD (fs ++ [n])))) D = some (.dK (fsD (fs ++ [n]))) := upd_same
            have hlv4 : (upd H3 D (.dK (fsD (fs ++ [n])))) lv = some (.lst (iN ini)) := by rw [upd_ne (Ne.symm nDl)]; exact hlv3
            generalize upd H3 D (.dK (fsD (fs ++ [n]))) = H4 at *
            have c4 := c.grow s4
            refine ⟨_, rfl, _, rfl, _, _, _, _, rfl, c4.self, lk_Container_c_things, _, rfl, _, _, _, _, rfl, rfl, SqL.of c4.things, c4.sthing et, _, _, _, _, rfl, c4.thing et, lk_Thing_got, _, rfl, ⟨_, SqL.of (c4.got et)⟩, fun L2 hL2 => ?_⟩
            have nL2 : H L2 = none := s4.free hL2
            have cm := wf.th et
            have hgl : S.things[n].got.length ≤ 5 := by
              obtain ⟨pr, hpr⟩ := some_of cm.nm
              rw [Paired.length cm.got]
              unfold heldW
              rw [wants_of hpr]
              exact Nat.le_trans (List.length_filter_le _ _) (Nat.le_trans (c.st.mok.few _ pr hpr) (c.st.mok.rk5 _))
            refine lc_it walk_list (fun i H5 => Same H4 H5 ∧ H5 L2 = some (.lst (iN (gotN (S.things[n].got.take i))))) ⟨Same.new hL2, upd_same⟩ (fun i H5 _ h => SqL.of ((c4.grow h.1).got et)) ?_ ?_
            · rintro i x H5 H6 hi ⟨h3, h4⟩ ⟨rfl, hx⟩
              rw [List.getElem?_map] at hx
              obtain ⟨o, ho, rfl⟩ := Option.map_eq_some_iff.mp hx
              refine ⟨rfl, _, rfl, rfl, _, rfl, ?_⟩
              rw [gotN_succ ho]
              cases o with
              | none => exact iteF ⟨h3, by rw [show (none : Option Nat).toList = [] from rfl, List.append_nil]; exact h4⟩
              | some j =>
                refine iteT ⟨_, rfl, _, h4, ?_, fun b o e => ?_, ?_⟩
                · unfold iN
                  rw [List.length_map]
                  refine small1000 (Nat.le_trans (gotN_len _) ?_)
                  rw [List.length_take]
                  omega
                · rw [upd_ne (ne_of_none e hL2)]
                  exact h3 b o e
                · rw [upd_same]
                  unfold iN
                  rw [List.map_append]
                  rfl
            · rintro H5 ⟨h3, h4⟩
              rw [List.length_map, List.take_length] at h4
              have hgn : (gotN S.things[n].got).length ≤ 5 := Nat.le_trans (gotN_len _) hgl
              have hli : (iN ini).length + (iN (gotN S.things[n].got)).length ≤ sizeLine := by
                unfold iN
                rw [List.length_map, List.length_map]
                rw [hlen] at hm
                rw [sizeLine_eq]
                unfold BIG at hT
                omega
              refine ⟨_, _, _, _, rfl, rfl, h3 _ _ hlv4, h4, hli, fun lw hlw => ?_⟩
              have s5 : Same H5 (upd H5 lw (.lst (iN ini ++ iN (gotN S.things[n].got)))) := Same.new hlw
              have hap : iN ini ++ iN (gotN S.things[n].got) = iN (ini ++ gotN S.things[n].got) := by unfold iN; rw [List.map_append]
              have hla : (ini ++ gotN S.things[n].got).length = ini.length + (gotN S.things[n].got).length := List.length_append
              have hfa : (fs ++ [n]).length = fs.length + 1 := by rw [List.length_append, List.length_singleton]
              refine ⟨_, ?_, lw, _, ini ++ gotN S.things[n].got, fs ++ [n], rfl, (s4.trans h3).trans s5, s5 _ _ (h3 _ _ hD4), by rw [upd_same, hap], ne_of_none (h3 _ _ hD4) hlw, (s4.trans h3).free hlw, fun k hk => ?_, ?_, fun k hk => ?_, fun k hk => ?_, fun k hk t j e hj => ?_, rfl, ?_⟩
              · rw [hlen, hla, hfa]; omega
              · rcases List.mem_append.mp hk with z | z
                · exact i1 k (List.mem_append_left _ z)
                · exact .held an et (gotN_mem.mp z)
              · exact List.nodup_append.mpr ⟨i2, nd1 n, fun a ha b hb z => hin (by rw [List.mem_singleton.mp hb] at z; rw [← z]; exact ha)⟩
              · rcases List.mem_append.mp hk with z | z
                · exact i3 k z
                · rw [List.mem_singleton.mp z]; exact an
              · rcases i4 k hk with z | z
                · rcases List.mem_append.mp z with z | z
                  · exact .inl (List.mem_append_left _ z)
                  · exact .inr (List.mem_append_right _ z)
                · exact .inr (List.mem_append_left _ z)
              · rcases List.mem_append.mp hk with z | z
                · rcases i5 k z t j e hj with z | z
                  · rcases List.mem_append.mp z with z | z
                    · exact .inl (List.mem_append_left _ z)
                    · exact .inr (List.mem_append_right _ z)
                  · exact .inr (List.mem_append_left _ z)
                · rw [List.mem_singleton.mp z, et] at e
                  cases e
                  exact .inl (List.mem_append_right _ (gotN_mem.mpr hj))
              · rw [hla, hfa]
                rw [hlen] at hm
                omega
end
end K94
set_option maxHeartbeats 4000000
/-! closing a scope; the end of a deed -/
namespace K94
open PySem PySem.Spec PyProof.Rows L2 StX
theorem endF_top_le (g : Gam) (S : Cor) (k : Nat) : EndLe S (endF g TOP S k) := end_le g TOP S k
theorem shutStep_le (g : Gam) (s : Nat) (S : Cor) (k : Nat) : EndLe S (shutStep g s S k) := by
  unfold shutStep
  split
  · split
    · exact endF_top_le g S k
    · exact EndLe.refl S
  · exact EndLe.refl S
theorem close_things (S : Cor) (s : Nat) : (S.close s).things = S.things := by
  unfold Cor.close
  split <;> rfl
theorem close_of {S : Cor} {s : Nat} {x : Scp} (e : S.scopes[s]? = some x) : S.close s = S.setS s { x with alive := false } := by unfold Cor.close; rw [e]
/-- what finish notes as left -/
theorem leftStep_things (g : Gam) (T : List Thg) (S : Cor) (k : Nat) : (leftStep g T S k).things = S.things ∧ (leftStep g T S k).scopes = S.scopes ∧ (leftStep g T S k).kept = S.kept ∧ (leftStep g T S k).loose = S.loose ∧ sz S ≤ sz (leftStep g T S k) := by
  unfold leftStep
  split
  · split
    · exact ⟨rfl, rfl, rfl, rfl, by unfold sz Cor.fault Cor.addLeft; simp <;> omega⟩
    · exact ⟨rfl, rfl, rfl, rfl, Nat.le_refl _⟩
  · exact ⟨rfl, rfl, rfl, rfl, Nat.le_refl _⟩
theorem leftStep_no {g : Gam} {T : List Thg} {S : Cor} {k : Nat} {t : Thg} (e : T[k]? = some t) (h : ¬ ((g.M.life t.name = -1 ∧ t.ended = false) ∧ ¬ Att g T k ∧ k ∉ S.left)) : leftStep g T S k = S := by
  unfold leftStep
  rw [e]
  exact if_neg h
theorem leftStep_yes {g : Gam} {T : List Thg} {S : Cor} {k : Nat} {t : Thg} (e : T[k]? = some t) (h : (g.M.life t.name = -1 ∧ t.ended = false) ∧ ¬ Att g T k ∧ k ∉ S.left) : leftStep g T S k = (S.addLeft k).fault "left" k [t.name] := by
  unfold leftStep
  rw [e]
  exact if_pos h
structure LeftLe (S S' : Cor) : Prop where
  th : S'.things = S.things
  sc : S'.scopes = S.scopes
  ke : S'.kept = S.kept
  lo : S'.loose = S.loose
  sz : sz S ≤ sz S'
theorem leftFold (g : Gam) (T : List Thg) (l : List Nat) (S : Cor) : LeftLe S (l.foldl (leftStep g T) S) :=
  foldl_keep (P := LeftLe) (fun _ => ⟨rfl, rfl, rfl, rfl, Nat.le_refl _⟩) (fun _ _ _ a b => ⟨b.th.trans a.th, b.sc.trans a.sc, b.ke.trans a.ke, b.lo.trans a.lo, Nat.le_trans a.sz b.sz⟩) (fun S k => by
    obtain ⟨h1, h2, h3, h4, h5⟩ := leftStep_things g T S k
    exact ⟨h1, h2, h3, h4, h5⟩) l S
theorem inV_nat (k : Nat) : ∀ l : List Nat, inV (.int (k : Nat)) (iN l) = decide (k ∈ l)
  | [] => rfl
  | a :: l => by
    have ih := inV_nat k l
    show (eqV (.int (a : Nat)) (.int (k : Nat)) || inV (.int (k : Nat)) (iN l)) = _
    rw [ih]
    show (((a : Int) == (k : Int)) || decide (k ∈ l)) = _
    by_cases q : a = k
    · subst q
      simp
    · have e : ((a : Int) == (k : Int)) = false := beq_eq_false_iff_ne.mpr fun z => q (by omega)
      rw [e, Bool.false_or]
      by_cases z : k ∈ l
      · rw [decide_eq_true z, decide_eq_true (List.mem_cons_of_mem _ z)]
      · rw [decide_eq_false z, decide_eq_false fun u => (List.mem_cons.mp u).elim (fun v => q v.symm) z]
theorem flat_nat : ∀ l : List Nat, (iN l).all flatV = true
  | [] => rfl
  | a :: l => by
    show (true && (iN l).all flatV) = true
    rw [flat_nat l]
    rfl
section
variable {P : Program} {w : World} {K : PySem.W.Frag} {mg : Str → Option Value} {base : Heap} {f : Addr} {fd : FuncData}

def spShut (K : PySem.W.Frag) : Sp := fun vs H Q _ => ∃ g H0 A S W s x, vs = [.ref (A.a .self), .int (s : Nat)] ∧ Ctr K g H0 H A S W ∧ WF g (S.close s) ∧ S.scopes[s]? = some x ∧ ∀ H', Ctr K g H0 H' A (shutF g S s) W → Tups H H' → Q .non H'
theorem ok_shut {ke : Nat} (hk : 10 ≤ ke) (F : FnP K "shut" "Container.shut" s_Container_shut f fd) (T : Txt K mg) (p_Book_ends : PR P w K mg base (CBook K) "ends" "b_ends") (m_Parts___getitem__ : GM P w K mg base 3 (CParts K) "__getitem__" P_Parts___getitem__ (spGetPart K))
    (p_Part_life : PR P w K mg base (CPart K) "life" "p_life") (m_Container_end_thing : GM P w K mg base ke (CContainer K) "end_thing" P_Container_end_thing (spEnd K TOP)) : FnOk P w K mg base CX0 (ke + 1) f fd P_Container_shut (spShut K) := by
  refine okD F sc_Container_shut (fun vs H Q E h => ?_) (fun cdv A outer s H vs Q E hr h => ?_)
  · obtain ⟨_, _, _, _, _, _, _, rfl, _⟩ := h; rfl
  · obtain ⟨g, H0, A, S, W, sc, x, rfl, c, wf, ex, q⟩ := h
    have nd := sc_Container_shut.nd
    refine ⟨_, pss_cons (ps_f (pe_dget (hu_of hr) (pe_f (pv 0) T.c_Container T.n_Container_c_scopes) (pv 1) (fun _ _ => rfl)) (pe_bl) T.c_Scope T.n_Scope_alive)
    (pss_one (ps_for PassesOwn.never rfl (pi_enum (by rfl) T.f_enumerate (pa_cons (pe_f (pv 0) T.c_Container T.n_Container_c_things) pa_nil)) (pg_tup rfl (pgs_cons (pg_name (i := 2) nd rfl (Or.inl rfl)) (pgs_cons (pg_name (i := 3) nd rfl (Or.inl rfl)) pgs_nil)))
      (pss_one (ps_if (PW.pt (pw_and (pt_cmpR op_eq (pe_f (pv 3) T.c_Thing T.n_Thing_home) (pv 1) (nomark _)) (pw_and1 (PW.pt (pw_or (pt_cmpR op_ne (pe_pr p_Part_life (hr.mono (by omega)) (pe_own_get m_Parts___getitem__ T.fk (hr.mono (by omega)) (pe_f (pv 0) T.c_Container T.n_Container_c_parts) (pe_f (pv 3) T.c_Thing T.n_Thing_name))) (pe_gi T.i_USE) (nomark _)) (pw_or1 (pt_cmpR op_eq (pe_pr p_Book_ends (hr.mono (by omega)) (pe_f (pv 0) T.c_Container T.n_Container_c_book)) (pe_str) (nomark _))))))))
        (pss_one (ps_expr (pe_m m_Container_end_thing hr (pv 0) (pa_cons (pv 2) pa_nil))))
        (pss_nil))))), ?_⟩
    refine ⟨_, rfl, _, _, _, _, rfl, c.self, lk_Container_c_scopes, _, rfl, _, _, rfl, c.dscope ex, _, _, _, rfl, c.scope ex, len_Scope, ?_⟩
    have c1 := c.wShut ex
    have tu1 := c.tups (.scope sc) (o := .ins (CScope K) (A.d (.scope sc)) (scopeFs x)) (o2 := .ins (CScope K) (A.d (.scope sc)) (scopeFs { x with alive := false })) (by show S.scopes[sc]?.map _ = _; rw [ex]; rfl) True.intro
    have epf : putF "alive" (.bl false) (scopeFs x) = scopeFs { x with alive := false } := pf_Scope_alive
    rw [epf]
    rw [← close_of ex] at c1
    generalize upd H (A.a (.scope sc)) (.ins (CScope K) (A.d (.scope sc)) (scopeFs { x with alive := false })) = H1 at c1 tu1 ⊢
    have hsh : shutF g S sc = (List.range S.things.length).foldl (shutStep g sc) (S.close sc) := rfl
    rw [hsh] at q
    generalize hn : S.things.length = n at q
    have hn1 : (S.close sc).things.length = n := by rw [close_things, hn]
    generalize S.close sc = S1 at *
    have ct1 := c1.things
    rw [hn1] at ct1
    refine ⟨_, rfl, _, _, _, _, rfl, c1.self, lk_Container_c_things, _, _, rfl, SqL.of ct1, for_it (walk_enum (K := K) (xs := thRefs A n))
      (fun i σ H' => ∃ v2 v3, σ = [some (.ref (A.a .self)), some (.int (sc : Nat)), v2, v3] ∧ Ctr K g H0 H' A (((List.range n).take i).foldl (shutStep g sc) S1) W ∧ Tups H1 H')
      ⟨none, none, rfl, c1, Tups.refl H1⟩ ?_ ?_ ?_⟩
    · rintro i σ H' hi ⟨v2, v3, rfl, c', tu'⟩
      have ei : EndLe S1 (((List.range n).take i).foldl (shutStep g sc) S1) := foldl_keep (P := EndLe) EndLe.refl (fun _ _ _ => EndLe.trans) (shutStep_le g sc) _ _
      have ct := c'.things
      rw [ei.len, hn1] at ct
      exact SqL.of ct
    · rintro i xx σ H' H'' hi ⟨v2, v3, rfl, c', tu'⟩ ⟨Tt, x1, x2, rfl, nT, rfl, e1, e2⟩
      rw [thRefs_len] at hi
      cases e1
      dsimp only at e2
      rw [thRefs_get hi] at e2
      cases e2
      have hri : (List.range n)[i]? = some i := List.getElem?_range hi
      rw [take_succ (f := shutStep g sc) hri]
      have ei : EndLe S1 (((List.range n).take i).foldl (shutStep g sc) S1) := foldl_keep (P := EndLe) EndLe.refl (fun _ _ _ => EndLe.trans) (shutStep_le g sc) _ _
      have wfi := ei.wf wf
      have hlen : (((List.range n).take i).foldl (shutStep g sc) S1).things.length = n := by rw [ei.len, hn1]
      generalize ((List.range n).take i).foldl (shutStep g sc) S1 = Si at c' ei wfi hlen ⊢
      have et := List.getElem?_eq_getElem (show i < Si.things.length by rw [hlen]; exact hi)
      generalize Si.things[i]'(by rw [hlen]; exact hi) = t at et
      have s1 : Same H' (upd H' Tt (.tup [.int (i : Nat), .ref (A.a (.thing i))])) := Same.new nT
      have c2 := c'.grow s1
      have tu2 := tu'.trans (Same.tups s1)
      generalize hH2 : upd H' Tt (.tup [.int (i : Nat), .ref (A.a (.thing i))]) = H2 at c2 tu2 ⊢
      have htt : H2 Tt = some (.tup [.int (i : Nat), .ref (A.a (.thing i))]) := by rw [← hH2]; exact upd_same
      obtain ⟨pr, hpr⟩ := some_of (wfi.th et).nm
      obtain ⟨dxp, gd, kvs, pt⟩ := c2.parts
      obtain ⟨dxb, tb, bk⟩ := c2.book
      have hst : shutStep g sc Si i = if t.home = sc ∧ (pr.life ≠ -1 ∨ g.bk.ends = "scope") then endF g TOP Si i else Si := by
        unfold shutStep
        rw [et]
        show (if t.home = sc ∧ (g.M.life t.name ≠ -1 ∨ _) then _ else _) = _
        rw [life_of hpr]
      rw [hst]
      refine ⟨Tt, _, rfl, SqT.of htt, rfl, _, _, rfl, _, _, rfl, rfl, ?_⟩
      refine ⟨_, rfl, _, _, _, _, rfl, c2.thing et, lk_Thing_home, _, rfl, rfl, _, rfl, ?_⟩
      have stop : ¬ (t.home = sc ∧ (pr.life ≠ -1 ∨ g.bk.ends = "scope")) → ∃ v2 v3, ([some (.ref (A.a .self)), some (.int (sc : Nat)), some (.int (i : Nat)), some (.ref (A.a (.thing i)))] : L2.St) = [some (.ref (A.a .self)), some (.int (sc : Nat)), v2, v3] ∧ Ctr K g H0 H2 A (if t.home = sc ∧ (pr.life ≠ -1 ∨ g.bk.ends = "scope") then endF g TOP Si i else Si) W ∧ Tups H1 H2 := fun z => by
        rw [if_neg z]
        exact ⟨_, _, rfl, c2, tu2⟩
      have go : (t.home = sc ∧ (pr.life ≠ -1 ∨ g.bk.ends = "scope")) → spEnd K TOP [.ref (A.a .self), .int (i : Nat)] H2 (fun _ H3 => ∃ v2 v3, ([some (.ref (A.a .self)), some (.int (sc : Nat)), some (.int (i : Nat)), some (.ref (A.a (.thing i)))] : L2.St) = [some (.ref (A.a .self)), some (.int (sc : Nat)), v2, v3] ∧ Ctr K g H0 H3 A (if t.home = sc ∧ (pr.life ≠ -1 ∨ g.bk.ends = "scope") then endF g TOP Si i else Si) W ∧ Tups H1 H3) E0 := fun z => by
        rw [if_pos z]
        exact ⟨g, H0, A, Si, W, i, t, rfl, c2, wfi, et, Nat.lt_succ_of_le (c.st.mok.rk5 _), fun H3 c3 tu3 => ⟨_, _, rfl, c3, tu2.trans tu3⟩⟩
      by_cases h1 : t.home = sc
      · rw [decide_eq_true (show V.int (t.home : Nat) = V.int (sc : Nat) by rw [h1])]
        refine iteT ⟨_, rfl, _, _, _, _, rfl, c2.self, lk_Container_c_parts, _, rfl, _, _, _, _, rfl, c2.thing et, lk_Thing_name, _, _, _, rfl, pt.self, g.pa, g.M, dxp, gd, kvs, _, pr, rfl, pt, hpr, fun v hv => ?_⟩
        obtain ⟨ap, dxa, tw, ws, rfl, hap, _, _⟩ := hv
        refine ⟨_, _, _, _, rfl, hap, lk_Part_p_life, rfl, _, rfl, ?_⟩
        by_cases h2 : pr.life = -1
        · rw [decide_eq_true (show V.int pr.life = V.int (-1) by rw [h2])]
          refine iteF ⟨_, rfl, _, _, _, _, rfl, c2.self, lk_Container_c_book, _, _, _, _, rfl, bk.self, lk_Book_b_ends, rfl, _, rfl, ?_⟩
          by_cases h3 : g.bk.ends = "scope"
          · rw [decide_eq_true (str_iff.mpr h3)]
            exact iteT ⟨_, rfl, _, _, _, rfl, c2.self, no_Container_end_thing, _, rfl, go ⟨h1, .inr h3⟩⟩
          · rw [decide_eq_false fun z => h3 (str_iff.mp z)]
            exact iteF (stop fun z => z.2.elim (fun u => u h2) h3)
        · rw [decide_eq_false fun z => h2 (int_iff.mp z)]
          exact iteT (iteT ⟨_, rfl, _, _, _, rfl, c2.self, no_Container_end_thing, _, rfl, go ⟨h1, .inl h2⟩⟩)
      · rw [decide_eq_false fun z => h1 (by have := int_iff.mp z; omega)]
        exact iteF (stop fun z => h1 z.1)
    · rintro σ H' ⟨v2, v3, rfl, c', tu'⟩
      rw [thRefs_len, List.take_of_length_le (by rw [List.length_range]; exact Nat.le_refl _)] at c'
      exact q H' c' (tu1.trans tu')

theorem Ctr.drop {g : Gam} {H0 H1 H : Hp} {A : Ad} {S : Cor} {W : Wks} (s : Same H0 H1) (st : Stat K H0 g) (c : Ctr K g H1 H A S W) : Ctr K g H0 H A S W :=
  ⟨st, s.trans c.same, c.at_, c.inj, fun r hr => (by
    cases e : H0 (A.a r) with
    | none => rfl
    | some o =>
      have := c.new r hr
      rw [s _ _ e] at this
      cases this), c.fts, c.wks⟩
def finS1 (g : Gam) (S : Cor) : Cor := { (if g.bk.ends = "holder" then S.loose.foldl (endF g TOP) S else S) with loose := [] }
theorem finF_eq (g : Gam) (S : Cor) (b : Bool) : finF g S b = if (openS (finS1 g S).scopes).length = 1 ∧ b = true then (List.range (finS1 g S).things.length).foldl (leftStep g (finS1 g S).things) (finS1 g S) else finS1 g S := rfl
theorem endFold_le (g : Gam) (l : List Nat) (S : Cor) : EndLe S (l.foldl (endF g TOP) S) := foldl_keep (P := EndLe) EndLe.refl (fun _ _ _ => EndLe.trans) (end_le g TOP) l S
theorem finS0_le (g : Gam) (S : Cor) : EndLe S (if g.bk.ends = "holder" then S.loose.foldl (endF g TOP) S else S) := by
  split
  · exact endFold_le g _ S
  · exact EndLe.refl S
theorem noLoose_wf {g : Gam} {S : Cor} (wf : WF g S) : WF g { S with loose := [] } := ⟨wf.ok, ⟨wf.b.th, wf.b.kp⟩, fun n hn => by cases hn⟩
theorem finS1_wf {g : Gam} {S : Cor} (wf : WF g S) : WF g (finS1 g S) := noLoose_wf ((finS0_le g S).wf wf)
def spFinish (K : PySem.W.Frag) : Sp := fun vs H Q _ => ∃ g H0 A S W, vs = [.ref (A.a .self)] ∧ Ctr K g H0 H A S W ∧ WF g S ∧ S.scopes.length ≤ 1000 ∧ sz (finF g S W.ws.isEmpty) ≤ BIG ∧ ∀ H' A', Ctr K g H0 H' A' (finF g S W.ws.isEmpty) W → A'.a .self = A.a .self → Tups H H' → Q .non H'
theorem ok_finish {ke : Nat} (hk : 10 ≤ ke) (F : FnP K "finish" "Container.finish" s_Container_finish f fd) (T : Txt K mg) (p_Book_ends : PR P w K mg base (CBook K) "ends" "b_ends") (m_Parts___getitem__ : GM P w K mg base 3 (CParts K) "__getitem__" P_Parts___getitem__ (spGetPart K))
    (p_Part_life : PR P w K mg base (CPart K) "life" "p_life") (m_Container_end_thing : GM P w K mg base ke (CContainer K) "end_thing" P_Container_end_thing (spEnd K TOP)) (m_Container_is_quiet : GM P w K mg base 3 (CContainer K) "is_quiet" P_Container_is_quiet (spQuiet K))
    (m_Container_attached : GM P w K mg base 6 (CContainer K) "attached" P_Container_attached (spAttached K)) : FnOk P w K mg base CX0 (ke + 1) f fd P_Container_finish (spFinish K) := by
  refine okD F sc_Container_finish (fun vs H Q E h => ?_) (fun cdv A outer s H vs Q E hr h => ?_)
  · obtain ⟨_, _, _, _, _, rfl, _⟩ := h; rfl
  · obtain ⟨g, H0, A, S, W, rfl, c, wf, hsc, hz, q⟩ := h
    have nd := sc_Container_finish.nd
    refine ⟨_, pss_cut (ps_if (pt_cmpR op_eq (pe_pr p_Book_ends (hr.mono (by omega)) (pe_f (pv 0) T.c_Container T.n_Container_c_book)) (pe_str) (nomark _))
      (pss_one (ps_for PassesOwn.never rfl (pi_list (pe_f (pv 0) T.c_Container T.n_Container_c_loose)) (pg_name (i := 1) nd rfl (Or.inl rfl))
        (pss_one (ps_expr (pe_m m_Container_end_thing hr (pv 0) (pa_cons (pv 1) pa_nil))))))
      (pss_nil))
    (pss_cons (ps_f (pv 0) (pe_lst (pa_nil)) T.c_Container T.n_Container_c_loose)
    (pss_cut (ps_if (pt_val (pe_m0 m_Container_is_quiet (hr.mono (by omega)) (pv 0)))
      (pss_cons (ps_set (i := 2) nd rfl (Or.inl rfl) (pe_m0 m_Container_attached (hr.mono (by omega)) (pv 0)))
      (pss_one (ps_for PassesOwn.never rfl (pi_enum (by rfl) T.f_enumerate (pa_cons (pe_f (pv 0) T.c_Container T.n_Container_c_things) pa_nil)) (pg_tup rfl (pgs_cons (pg_name (i := 1) nd rfl (Or.inl rfl)) (pgs_cons (pg_name (i := 3) nd rfl (Or.inl rfl)) pgs_nil)))
        (pss_cons (ps_set (i := 4) nd rfl (Or.inl rfl) (pe_and (pe_cmpR op_eq (pe_pr p_Part_life (hr.mono (by omega)) (pe_own_get m_Parts___getitem__ T.fk (hr.mono (by omega)) (pe_f (pv 0) T.c_Container T.n_Container_c_parts) (pe_f (pv 3) T.c_Thing T.n_Thing_name))) (pe_gi T.i_USE) (nomark _)) (pe_one (pe_not (pe_f (pv 3) T.c_Thing T.n_Thing_ended)))))
        (pss_one (ps_if (PW.pt (pw_and (pt_val (pv 4)) (pw_and (pt_cmp (pc_dnotin (hu_of hr) (pv 1) (pv 2))) (pw_and1 (pt_cmpR op_notIn_seq (pv 1) (pe_f (pv 0) T.c_Container T.n_Container_c_left) rfl)))))
          (pss_cons (ps_expr (pe_bm PySem.F.plainAttrs_list PySem.F.slot_list_append PySem.F.type_list_append mt_append (pe_f (pv 0) T.c_Container T.n_Container_c_left) (pa_cons (pv 1) pa_nil)))
          (pss_one (ps_expr (pe_bm PySem.F.plainAttrs_list PySem.F.slot_list_append PySem.F.type_list_append mt_append (pe_f (pv 0) T.c_Container T.n_Container_c_faults) (pa_cons (pe_tup (pa_cons (pe_f (pv 0) T.c_Container T.n_Container_c_deeds) (pa_cons (pe_str) (pa_cons (pv 1) (pa_cons (pe_tup (pa_cons (pe_f (pv 3) T.c_Thing T.n_Thing_name) pa_nil)) pa_nil))))) pa_nil)))))
          (pss_nil)))))))
      (pss_nil))
    (pss_one (ps_f (pv 0) (pe_op op_add (pe_f (pv 0) T.c_Container T.n_Container_c_deeds) (pe_int)) T.c_Container T.n_Container_c_deeds)))), ?_⟩
    refine ⟨fun σ' H' => ∃ v1, σ' = [some (.ref (A.a .self)), v1, none, none, none] ∧ Ctr K g H0 H' A (if g.bk.ends = "holder" then S.loose.foldl (endF g TOP) S else S) W ∧ Tups H H', ?_, ?_⟩
    · obtain ⟨dxb, tb, bk⟩ := c.book
      refine ⟨_, rfl, _, _, _, _, rfl, c.self, lk_Container_c_book, _, _, _, _, rfl, bk.self, lk_Book_b_ends, rfl, _, rfl, ?_⟩
      by_cases h : g.bk.ends = "holder"
      · rw [decide_eq_true (str_iff.mpr h)]
        refine iteT ⟨_, rfl, _, _, _, _, rfl, c.self, lk_Container_c_loose, _, rfl, ⟨_, SqL.of c.loose⟩, for_list (K := K) (a := A.a .loose) (xs := S.loose.map fun n => V.int (n : Nat))
          (fun i σ H' => ∃ v1, σ = [some (.ref (A.a .self)), v1, none, none, none] ∧ Ctr K g H0 H' A ((S.loose.take i).foldl (endF g TOP) S) W ∧ Tups H H') ⟨none, rfl, c, Tups.refl H⟩ ?_ ?_ ?_⟩
        · rintro i σ H' hi ⟨v1, rfl, c', tu'⟩
          have z := c'.loose
          rw [(endFold_le g _ S).lo] at z
          exact SqL.of z
        · rintro i x σ H' hi ⟨v1, rfl, c', tu'⟩
          rw [List.getElem?_map] at hi
          obtain ⟨k, hk', rfl⟩ := Option.map_eq_some_iff.mp hi
          rw [take_succ (f := endF g TOP) hk']
          have ei := endFold_le g (S.loose.take i) S
          have wfi := ei.wf wf
          have hkl : k < ((S.loose.take i).foldl (endF g TOP) S).things.length := by rw [ei.len]; exact wf.lo k (List.mem_of_getElem? hk')
          generalize (S.loose.take i).foldl (endF g TOP) S = Si at c' wfi hkl ⊢
          have et := List.getElem?_eq_getElem hkl
          exact ⟨_, rfl, _, _, _, rfl, c'.self, no_Container_end_thing, _, rfl, g, H0, A, Si, W, k, _, rfl, c', wfi, et, Nat.lt_succ_of_le (c.st.mok.rk5 _), fun H2 c2 tu2 => ⟨_, rfl, c2, tu'.trans tu2⟩⟩
        · rintro σ H' ⟨v1, rfl, c', tu'⟩
          rw [List.length_map, List.take_length] at c'
          rw [if_pos h]
          exact ⟨v1, rfl, c', tu'⟩
      · rw [decide_eq_false fun z => h (str_iff.mp z)]
        refine iteF ⟨none, rfl, ?_, Tups.refl H⟩
        rw [if_neg h]
        exact c
    · rintro σ' H1 ⟨v1, rfl, c1, tu1⟩
      have wf1 := finS1_wf (g := g) wf
      have e0 := finS0_le g S
      rw [finF_eq] at q hz
      have hsc1 : (finS1 g S).scopes.length ≤ 1000 := by rw [show (finS1 g S).scopes = _ from e0.sc]; exact hsc
      unfold finS1 at q hz wf1 hsc1
      generalize (if g.bk.ends = "holder" then S.loose.foldl (endF g TOP) S else S) = S0 at *
      -- self.c_loose = []
      refine ⟨Nat.zero_le _, fun l hl => ?_⟩
      have s2 : Same H1 (upd H1 l (.lst [])) := Same.new hl
      have c2 := c1.grow s2
      have hl0 : H0 l = none := c1.same.free hl
      refine ⟨_, rfl, _, _, _, rfl, c2.self, len_Container, ?_⟩
      have c3 := c2.wNewLoose upd_same hl0 fun r hr z => by
        obtain ⟨u, e⟩ := Option.isSome_iff_exists.mp hr
        have := c1.at_ r u e
        rw [z, hl] at this
        cases this
      have tu3 : Tups H1 (upd (upd H1 l (.lst [])) (A.a .self) (.ins (CContainer K) (A.d .self) (selfFs g { A with a := setA A.a .loose l } W.po))) := (Same.tups s2).trans (c2.tups .self rfl True.intro)
      have epf : putF "c_loose" (.ref l) (selfFs g A W.po) = selfFs g { A with a := setA A.a .loose l } W.po := pf_Container_c_loose
      rw [epf]
      generalize upd (upd H1 l (.lst [])) (A.a .self) (.ins (CContainer K) (A.d .self) (selfFs g { A with a := setA A.a .loose l } W.po)) = H3 at c3 tu3 ⊢
      have ha : ({ A with a := setA A.a .loose l } : Ad).a .self = A.a .self := rfl
      generalize ({ A with a := setA A.a .loose l } : Ad) = A3 at c3 ha
      generalize ({ S0 with loose := [] } : Cor) = S1 at *
      rw [← ha] at q ⊢
      replace tu1 := tu1.trans tu3
      -- the things that are left
      refine ⟨fun σ' H' => ∃ A' v1 v2 v3 v4, σ' = [some (.ref (A3.a .self)), v1, v2, v3, v4] ∧ A'.a = A3.a ∧ Ctr K g H0 H' A' (if (openS S1.scopes).length = 1 ∧ W.ws.isEmpty = true then (List.range S1.things.length).foldl (leftStep g S1.things) S1 else S1) W ∧ Tups H3 H', ?_, ?_⟩
      · refine ⟨_, rfl, _, _, _, rfl, c3.self, no_Container_is_quiet, g, H0, A3, S1, W, rfl, c3, hsc1, fun H4 s4 => ⟨_, rfl, ?_⟩⟩
        have c4 := c3.grow s4
        by_cases h : (openS S1.scopes).length = 1 ∧ W.ws.isEmpty = true
        · rw [if_pos h] at hz
          rw [show quiet S1 W = true from decide_eq_true h]
          have lf : ∀ i, LeftLe S1 (((List.range S1.things.length).take i).foldl (leftStep g S1.things) S1) := fun i => leftFold g _ _ _
          refine iteT ⟨_, rfl, _, _, _, rfl, c4.self, no_Container_attached, g, H0, A3, S1, W, rfl, c4, wf1, Nat.le_trans (leftFold g _ _ _).sz hz, fun D fs H5 s5 nD hD hatt => ?_⟩
          have c5 := c4.grab s5 nD hD
          have nD0 := c4.same.free nD
          refine ⟨_, rfl, _, _, _, _, rfl, c5.self, lk_Container_c_things, _, _, rfl, SqL.of c5.things, for_it (walk_enum (K := K) (xs := thRefs A3 S1.things.length))
            (fun i σ H' => ∃ A' v1 v3 v4, σ = [some (.ref (A3.a .self)), v1, some (.ref D), v3, v4] ∧ A'.a = A3.a ∧ Ctr K g (upd H0 D (.dK (fsD fs))) H' A' (((List.range S1.things.length).take i).foldl (leftStep g S1.things) S1) W ∧ Tups H3 H')
            ⟨A3, v1, none, none, rfl, rfl, c5, (Same.tups s4).trans (Same.tups s5)⟩ ?_ ?_ ?_⟩
          · rintro i σ H' hi ⟨A', v1, v3, v4, rfl, ea, c', tu'⟩
            have ct := c'.things
            rw [(lf i).th] at ct
            unfold thRefs at ct ⊢
            rw [ea] at ct
            exact SqL.of ct
          · rintro i xx σ H' H'' hi ⟨A', v1, v3, v4, rfl, ea, c', tu'⟩ ⟨Tt, x1, x2, rfl, nT, rfl, e1, e2⟩
            rw [thRefs_len] at hi
            cases e1
            dsimp only at e2
            rw [thRefs_get hi] at e2
            cases e2
            have hri : (List.range S1.things.length)[i]? = some i := List.getElem?_range hi
            have hzi : sz (leftStep g S1.things (((List.range S1.things.length).take i).foldl (leftStep g S1.things) S1) i) ≤ BIG := by
              rw [← take_succ (f := leftStep g S1.things) hri]
              rw [foldl_take (i := i + 1)] at hz
              exact Nat.le_trans (leftFold g _ _ _).sz hz
            rw [take_succ (f := leftStep g S1.things) hri]
            have li := lf i
            generalize ((List.range S1.things.length).take i).foldl (leftStep g S1.things) S1 = Si at c' li hzi ⊢
            have et := List.getElem?_eq_getElem hi
            generalize S1.things[i] = t at et
            have eti : Si.things[i]? = some t := by rw [li.th]; exact et
            have s6 : Same H' (upd H' Tt (.tup [.int (i : Nat), .ref (A3.a (.thing i))])) := Same.new nT
            have c6 := c'.grow s6
            have tu6 := tu'.trans (Same.tups s6)
            have htt : (upd H' Tt (.tup [.int (i : Nat), .ref (A3.a (.thing i))])) Tt = some (.tup [.int (i : Nat), .ref (A3.a (.thing i))]) := upd_same
            generalize upd H' Tt (.tup [.int (i : Nat), .ref (A3.a (.thing i))]) = H6 at c6 tu6 htt ⊢
            rw [← ea] at htt ⊢
            obtain ⟨pr, hpr⟩ := some_of (wf1.th et).nm
            obtain ⟨dxp, gd, kvs, pt⟩ := c6.parts
            have hD6 : H6 D = some (.dK (fsD fs)) := c6.same _ _ upd_same
            have lf' := life_of hpr
            refine ⟨Tt, _, rfl, SqT.of htt, rfl, _, _, rfl, _, _, rfl, rfl, ?_⟩
            refine ⟨_, rfl, _, _, _, _, rfl, c6.self, lk_Container_c_parts, _, rfl, _, _, _, _, rfl, c6.thing eti, lk_Thing_name, _, _, _, rfl, pt.self, g.pa, g.M, dxp, gd, kvs, _, pr, rfl, pt, hpr, fun v hv => ?_⟩
            obtain ⟨ap, dxa, tw, ws, rfl, hap, _, _⟩ := hv
            refine ⟨_, _, _, _, rfl, hap, lk_Part_p_life, rfl, _, rfl, ?_⟩
            have stop : ∀ x4 : Option V, ¬ ((g.M.life t.name = -1 ∧ t.ended = false) ∧ ¬ Att g S1.things i ∧ i ∉ Si.left) → ∃ A'' v1 v3 v4, ([some (.ref (A'.a .self)), some (.int (i : Nat)), some (.ref D), some (.ref (A'.a (.thing i))), x4] : L2.St) = [some (.ref (A'.a .self)), v1, some (.ref D), v3, v4] ∧ A''.a = A'.a ∧ Ctr K g (upd H0 D (.dK (fsD fs))) H6 A'' (leftStep g S1.things Si i) W ∧ Tups H3 H6 := fun x4 z => by
              rw [leftStep_no et z]
              exact ⟨A', _, _, _, rfl, rfl, c6, tu6⟩
            by_cases h1 : pr.life = -1
            · rw [decide_eq_true (show V.int pr.life = V.int (-1) by rw [h1])]
              refine iteT ⟨_, rfl, _, _, _, _, rfl, c6.thing eti, lk_Thing_ended, _, rfl, ?_⟩
              cases hte : t.ended with
              | true => exact ⟨_, rfl, _, rfl, iteF (iteF (stop _ fun z => by rw [hte] at z; exact absurd z.1.2 (by decide)))⟩
              | false =>
                refine ⟨_, rfl, _, rfl, iteT ⟨_, rfl, _, rfl, _, _, rfl, dget_i hD6, _, rfl, ?_⟩⟩
                rw [fsD_get]
                by_cases h2 : Att g S1.things i
                · rw [if_pos ((hatt i).mpr h2)]
                  exact iteF (iteF (stop _ fun z => z.2.1 h2))
                · rw [if_neg fun z => h2 ((hatt i).mp z)]
                  refine iteT ⟨_, rfl, _, rfl, _, _, _, _, rfl, c6.self, lk_Container_c_left, _, iN Si.left, rfl, .inl (SqL.of c6.left), rfl, flat_nat _, _, rfl, ?_⟩
                  rw [inV_nat]
                  by_cases h3 : i ∈ Si.left
                  · rw [decide_eq_true h3]
                    exact iteF (stop _ fun z => z.2.2 h3)
                  · rw [decide_eq_false h3]
                    have hyes := leftStep_yes (S := Si) et ⟨⟨lf'.trans h1, hte⟩, h2, h3⟩
                    rw [hyes] at hzi
                    have hz1 : sz (Si.addLeft i) ≤ BIG := Nat.le_trans (grow_fault _ _ _ _).sz hzi
                    have hl1 : (Si.left.map fun n => V.int (n : Nat)).length < sizeLine := by
                      rw [List.length_map]
                      refine sline (Nat.le_trans ?_ (Nat.le_trans (show sz Si ≤ sz (Si.addLeft i) by unfold sz Cor.addLeft; simp <;> omega) hz1))
                      unfold sz
                      omega
                    refine iteT ⟨_, rfl, _, _, _, _, rfl, c6.self, lk_Container_c_left, .inl ⟨rfl, _, SqL.of c6.left⟩, _, rfl, _, _, _, rfl, rfl, c6.left, hl1, ?_⟩
                    have c7 := c6.wLeft (n := i)
                    have tu7 := tu6.trans (c6.tups (o2 := .lst ((Si.left.map fun n => V.int (n : Nat)) ++ [.int (i : Nat)])) .left rfl True.intro)
                    generalize upd H6 (A'.a .left) (.lst ((Si.left.map fun n => V.int (n : Nat)) ++ [.int (i : Nat)])) = H7 at c7 tu7 ⊢
                    have et7 : (Si.addLeft i).things[i]? = some t := eti
                    refine ⟨_, rfl, _, _, _, _, rfl, c7.self, lk_Container_c_faults, .inl ⟨rfl, _, SqL.of c7.faults⟩, _, rfl, _, _, _, _, rfl, c7.self, lk_Container_c_deeds, _, rfl, _, rfl, _, _, _, _, rfl, c7.thing et7, lk_Thing_name, by show 1 ≤ sizeLine; rw [sizeLine_eq]; decide, fun t2 ht2 => ⟨by show 4 ≤ sizeLine; rw [sizeLine_eq]; decide, fun t3 ht3 => ?_⟩⟩
                    have s8 : Same H7 (upd H7 t2 (.tup [.str t.name])) := Same.new ht2
                    have hp2 : (upd H7 t2 (.tup [.str t.name])) t2 = some (.tup [.str t.name]) := upd_same
                    have c8 := c7.grow s8
                    have tu8 := tu7.trans (Same.tups s8)
                    generalize upd H7 t2 (.tup [.str t.name]) = H8 at c8 tu8 hp2 ht3 ⊢
                    have s9 : Same H8 (upd H8 t3 (.tup [.int A'.dn, .str "left", .int (i : Nat), .ref t2])) := Same.new ht3
                    have hf : FaultAt (upd H8 t3 (.tup [.int A'.dn, .str "left", .int (i : Nat), .ref t2])) (.ref t3) ("left", i, [t.name]) := ⟨t3, A'.dn, t2, rfl, upd_same, s9 _ _ hp2⟩
                    have c9 := c8.grow s9
                    have tu9 := tu8.trans (Same.tups s9)
                    generalize upd H8 t3 (.tup [.int A'.dn, .str "left", .int (i : Nat), .ref t2]) = H9 at c9 tu9 hf ⊢
                    have hl2 : A'.fv.length < sizeLine := by
                      rw [Paired.length c9.fts]
                      refine sline (Nat.le_trans ?_ hz1)
                      unfold sz
                      omega
                    refine ⟨_, _, _, rfl, rfl, c9.faults, hl2, A'.addF (.ref t3), _, _, _, rfl, rfl, ?_, tu9.trans (c9.tups .faults rfl True.intro)⟩
                    rw [hyes]
                    exact c9.wFault hf
            · rw [decide_eq_false fun z => h1 (int_iff.mp z)]
              exact iteF ⟨_, rfl, _, rfl, iteF (iteF (stop _ fun z => h1 (lf'.symm.trans z.1.1)))⟩
          · rintro σ H' ⟨A', v1, v3, v4, rfl, ea, c', tu'⟩
            rw [thRefs_len, List.take_of_length_le (by rw [List.length_range]; exact Nat.le_refl _)] at c'
            rw [if_pos h]
            exact ⟨A', _, _, _, _, rfl, ea, c'.drop (Same.new nD0) c.st, tu'⟩
        · rw [show quiet S1 W = false from decide_eq_false h, if_neg h]
          exact iteF ⟨A3, _, _, _, _, rfl, rfl, c4, Same.tups s4⟩
      · rintro σ' H4 ⟨A4, v1, v2, v3, v4, rfl, ea, c4, tu4⟩
        rw [← ea] at q ⊢
        refine ⟨_, rfl, _, _, _, _, rfl, c4.self, lk_Container_c_deeds, _, _, rfl, rfl, _, rfl, _, _, _, rfl, c4.self, len_Container, ?_⟩
        have c5 := c4.wDeeds (i := A4.dn + 1)
        have epf : putF "c_deeds" (.int (A4.dn + 1)) (selfFs g A4 W.po) = selfFs g (A4.dn1 (A4.dn + 1)) W.po := pf_Container_c_deeds
        rw [epf]
        exact q _ _ c5 rfl ((tu1.trans tu4).trans (c4.tups .self rfl True.intro))
end
end K94
set_option maxHeartbeats 4000000
/-! the values of a dict: the view, a test against it, its list -/
namespace K94
open PySem PySem.Spec PyProof.Rows L2 StX
theorem ent_civ : entryFor table "proto.contains_iter" = some Builtin.«proto.contains_iter» := entryFor_of_fast (by kernel_rfl)
theorem pla_civ : plainId "proto.contains_iter" = true := by decide +kernel
theorem no_contains_values : typeLookup (.type "dict_values") "__contains__" = pure none := by kernel_rfl
section
variable {prog : Program} {w : World} {A : Around}
theorem code_civ {I : Addr} {fp wr : List Addr} {n : Nat} {P : Nat → Value → Prop} {St : Nat → Heap → Prop} (W : Walks prog w A.in1 I fp wr n P St) (x : Value) (e : Nat → Bool) (R : Result → Shared → Prop) :
    ∀ (k i : Nat) (s : Shared), n - i = k → i ≤ n → St i s.heap →
    (∀ j v (s' : Shared), i ≤ j → P j v → SeqAt.EqAt A.in1 s' v x (e j)) →
    (∀ h' tk, (∀ b o, b ∉ wr → s.heap.get? b = some o → h'.get? b = some o) → R (.ok (.ret (.bool ((List.range' i (n - i)).any e)))) { s with heap := h', toks := tk }) →
    codeAny (model prog w) A (.builtin "proto.contains_iter" ⟨[.ref I, x], []⟩) R s := by
  intro k
  induction k with
  | zero =>
    intro i s hk hi hst he hR
    have hin : i = n := by omega
    refine codeAny_builtin ent_civ ?_
    rw [Around.under_plainId pla_civ _]
    show wpAny _ A.in1 (pyNext (.ref I) >>= _) _ _ s
    refine wpAny_bind (W.done s _ _ (hin ▸ hst) fun h' tk hk' => ?_)
    refine wpAny_bind (wpAny_rule (wpAny_pure ?_))
    have := hR h' tk hk'
    rw [hin, Nat.sub_self] at this
    exact this
  | succ k ih =>
    intro i s hk hi hst he hR
    have hlt : i < n := by omega
    refine codeAny_builtin ent_civ ?_
    rw [Around.under_plainId pla_civ _]
    show wpAny _ A.in1 (pyNext (.ref I) >>= _) _ _ s
    refine wpAny_bind (W.item i s _ _ hlt hst fun v h' tk hP hst' hk' => ?_)
    have hr : List.range' i (n - i) = i :: List.range' (i + 1) (n - (i + 1)) := by
      rw [show n - i = (n - (i + 1)) + 1 by omega, List.range'_succ]
    rw [hr] at hR
    refine wpAny_bind (he i v _ (Nat.le_refl _) hP prog w _ _ ?_)
    cases hb : e i with
    | true =>
      refine wpAny_bind (wpAny_rule (wpAny_pure ?_))
      have := hR h' tk hk'
      rw [List.any_cons, hb] at this
      exact this
    | false =>
      refine wpAny_pure ⟨plainId_quiet pla_civ _, ih (i + 1) _ (by omega) hlt hst' (fun j v s' hj hP => he j v s' (by omega) hP) fun h2 tk2 hk2 => ?_⟩
      have := hR h2 tk2 fun b o hb e => hk2 b o hb (hk' b o hb e)
      rw [List.any_cons, hb] at this
      exact this
end
/-- o.values() -/
def tVals (td : TE) : TE := fun σ H Q => td σ H fun x H1 => ∃ a kvs, x = .ref a ∧ H1 a = some (.dK kvs) ∧ ∀ p, H1 p = none → Q (.ref p) (upd H1 p (viewO "dict_values" p a))
theorem pe_vals {X : Cx} {o : Expr} {apos mpos : Pos} {td : TE} (hd : PE X o td) (hbase : attributeBase o "values" X.env (eval o X.env) = eval o X.env := by rfl) (hline : (apos.endLine == mpos.line) = true := by rfl) :
    PE X (.Call (.Attribute o "values" apos) [] [] mpos) (tVals td) := by
  refine ⟨fun pins s σ H Q I h => ?_⟩
  refine wpAny_Call_method0_late hbase hline (thn (hd.run pins s σ H _ I h) fun v s1 ⟨x, H1, I1, r1, a, kvs, ex, ha, q⟩ => ?_)
  subst ex
  obtain rfl : v = Value.ref a := r1
  obtain ⟨_, hsys, vs, rel, dof⟩ := dk_of I1.hok ha
  obtain ⟨ep, dat⟩ := dof.dictAt
  have dat' := dat
  obtain ⟨ob, es, ho, ex, hdat, hko, hpr, hnd⟩ := dat'
  refine ⟨"dict", "dict.values", PySem.F.plainAttrs_dict, PySem.F.slot_dict_values, PySem.F.type_dict_values, ⟨ob, ho, ex.1⟩, fun b e => ?_, Calls.callWith_builtin rfl (PySem.evalArgs_none ?_)⟩
  · cases e
    exact ⟨ob, ho, ex.2.1⟩
  refine call_meetsIn PySem.F.slot_dict_values ⟨ob, ho, ex.1⟩ PySem.F.entry_dict_values (PySem.F.args_dict_values_1 _) (meets_dict_values (mixKind X.prog X.w) a hsys) ⟨⟨vs, dof⟩, ?_⟩
  exact ⟨.ref s1.heap.objs.size, _, I1.laid (t' := s1.toks) (fun b o q => Heap.get?_push_of_some _ q) (Nat.le_refl _) (viewO_ok (Heap.get?_push_size _ rfl)), rfl, q _ (I1.hok.fresh (Nat.le_refl _))⟩
section
variable {X : Cx}
theorem kv_val {kvs : List (Key × V)} {vs : List (Key × Value)} (rel : KV kvs vs) {i : Nat} {k : Key} {v : Value} (h : vs[i]? = some (k, v)) : ∃ x, (kvs.map (·.2))[i]? = some x ∧ RelV x v := by
  obtain ⟨x, h1, h2⟩ := KV.at' rel h
  exact ⟨x, by rw [List.getElem?_map, h1] <;> rfl, h2⟩
/-- x in o.values(): flat values -/
def rInVals (neg : Bool) : R2 := fun x y H Q => ∃ p a kvs, y = .ref p ∧ H p = some (viewO "dict_values" p a) ∧ H a = some (.dK kvs) ∧ flatV x = true ∧ (kvs.map (·.2)).all flatV = true ∧ Q (.bl (if neg then !inV x (kvs.map (·.2)) else inV x (kvs.map (·.2)))) H
theorem any_at {α : Type} (f : α → Bool) (d : α) (l : List α) : (List.range' 0 l.length).any (fun i => f (l.getD i d)) = l.any f := by
  induction l with
  | nil => rfl
  | cons a l ih =>
    rw [List.length_cons, List.range'_succ, List.any_cons, List.any_cons, ← ih]
    congr 1
    rw [List.range'_eq_map_range, List.range'_eq_map_range, List.any_map, List.any_map]
    congr 1
    funext i
    show f ((a :: l).getD (0 + 1 + i) d) = f (l.getD (0 + i) d)
    rw [show 0 + 1 + i = (0 + i) + 1 by omega]
    rfl
theorem contains_vals (hc : X.calm = true) {pins : List (Addr × Obj)} {s : Shared} {σ : L2.St} {H : Hp} {x : V} {v u : Value} {Q : Bool → Shared → Prop} (I : Inv X pins σ H s) (rx : RelV x v) {p a : Addr} {kvs : List (Key × V)} (ry : RelV (.ref p) u)
    (hp : H p = some (viewO "dict_values" p a)) (ha : H a = some (.dK kvs)) (fx : flatV x = true) (fs : (kvs.map (·.2)).all flatV = true)
    (q : ∀ s', Inv X pins σ H s' → Q (inV x (kvs.map (·.2))) s') : wpAny (model X.prog X.w) X.A (contains u v) Q X.xe s := by
  obtain rfl : u = Value.ref p := ry
  have hv : s.heap.get? p = some (DSub.viewOb "dict_values" a) := (show ObjOk X.prog X.w H s.heap p (viewO "dict_values" p a) from I.hok p _ hp).1
  obtain ⟨_, hsys, vs, rel, dof⟩ := dk_of I.hok ha
  obtain ⟨ep, dat⟩ := dof.dictAt
  have dat' := dat
  obtain ⟨ob, es, ho, ex, hdat, hko, hpr, hnd⟩ := dat'
  have hT : s.TypeIs (.ref p) "dict_values" := ⟨_, hv, rfl⟩
  unfold contains
  refine wpAny_holding ?_
  rw [stdlibNamesSay?_of_typeIs hT]
  refine wpAny_bind (wpAny_specialOf hT no_contains_values ?_)
  show wpAny _ _ (if ((none : Option Value) == some Value.none) = true then _ else _) Q _ s
  rw [if_neg (by decide)]
  refine wpAny_bind (wpAny_callSpecialUnlessNone?_none hT no_contains_values ?_)
  refine wpAny_bind (wpAny_rule ?_)
  refine wpAny_bind (wpAny_tryCatch (wpAny_pyIter_values (v := p) (d := a) (knd := mixKind X.prog X.w) ⟨_, hv, rfl, rfl⟩ dat ?_))
  have hlt : a < s.heap.objs.size := Heap.lt_size ho
  have W := Walks.dictValues (prog := X.prog) (w := X.w) (knd := mixKind X.prog X.w) (A := X.A.in1) (I.ok.hd hc) s.heap.objs.size a (Nat.ne_of_lt hlt) vs ep
  have hkv : vs.length = (kvs.map (·.2)).length := by rw [List.length_map]; exact (KV.length rel).symm
  refine wpAny_bind (wpAny_runValue (code_civ W v (fun i => eqV ((kvs.map (·.2)).getD i .non) x) _ _ 0 _ rfl (Nat.zero_le _) ⟨⟨_, Heap.get?_push_size _ rfl, rfl, rfl⟩, dat.keep fun b u e => Heap.get?_push_of_some _ e⟩ (fun j y s' _ hP => ?_) fun h' tk hk => ?_))
  · obtain ⟨k, hk⟩ := hP
    obtain ⟨z, h1, h2⟩ := kv_val rel hk
    rw [List.getD_eq_getElem?_getD, h1]
    have hz : flatV z = true := List.all_eq_true.mp fs z (List.mem_of_getElem? h1)
    exact eqAt_V h2 rx hz fx
  · rw [Nat.sub_zero, hkv, any_at (fun y => eqV y x) .non]
    refine wpAny_pure (q _ (I.kept (t' := tk) fun b u e => hk b u (fun hm => ?_) (Heap.get?_push_of_some _ e)))
    rw [List.mem_singleton.mp hm] at e
    exact absurd (Heap.lt_size e) (Nat.lt_irrefl _)
theorem op_in_vals (hc : X.calm = true) : OpR X (compareOp .In) (rInVals false) := by
  intro pins s σ H x y v u Q I rx ry h
  obtain ⟨p, a, kvs, rfl, hp, ha, fx, fs, q⟩ := h
  exact wpAny_bind (contains_vals hc I rx ry hp ha fx fs fun s' I' => wpAny_pure ⟨.bl _, H, I', rfl, q⟩)
/-- list(o.values()) -/
theorem call_list_vals (hc : X.calm = true) : CallR X (.type "list") (fun xs H Q => ∃ p a kvs, xs = [.ref p] ∧ H p = some (viewO "dict_values" p a) ∧ H a = some (.dK kvs) ∧ ∀ l, H l = none → Q (.ref l) (upd H l (.lst (kvs.map (·.2))))) := by
  intro pins s σ H xs us Q I r h
  obtain ⟨p, a, kvs, ex, hp, ha, q⟩ := h
  subst ex
  obtain ⟨u, eu, rx⟩ := vals1 r
  subst eu
  cases rx
  have hv : s.heap.get? p = some (DSub.viewOb "dict_values" a) := (show ObjOk X.prog X.w H s.heap p (viewO "dict_values" p a) from I.hok p _ hp).1
  obtain ⟨z, lo, vs, rel, dof⟩ := dk_of I.hok ha
  obtain ⟨ep, dat⟩ := dof.dictAt
  refine PySem.W.kdl_call (PySem.W.kdl_values (knd := mixKind X.prog X.w) (kvs := vs) (ep := ep)) (I.ok.hd hc) ⟨⟨_, hv, rfl, rfl⟩, dat⟩ (by rw [← rel.length]; exact z) fun h' tk acc c' hk hD hacc => ?_
  have hvs : acc.toList = vs.map (·.2) := PySem.W.kdl_vals_eq acc.toList (by rw [Array.length_toList]; exact hacc.1) fun j v e => hacc.2 j v (by rw [← Array.getElem?_toList]; exact e)
  have hvl : ∀ {l1 : List (Key × V)} {l2 : List (Key × Value)}, KV l1 l2 → Vals (l1.map (·.2)) (l2.map (·.2)) := fun h => by
    induction h with
    | nil => exact .nil
    | cons a _ ih => exact .cons a.2 ih
  refine ⟨.ref s.heap.objs.size, upd H s.heap.objs.size (.lst (kvs.map (·.2))), I.laid (t' := tk) hk (Nat.le_refl _)
    (show ObjOk X.prog X.w _ _ _ (.lst (kvs.map (·.2))) from ⟨by rw [List.length_map]; exact z, acc.toList, c', by rw [hvs]; exact hvl rel, by rw [Array.toArray_toList]; exact hD⟩), rfl, q _ (I.hok.fresh (Nat.le_refl _))⟩
end
end K94
set_option maxHeartbeats 4000000
/-! the deeds: plain -/
namespace K94
open PySem PySem.Spec PyProof.Rows L2 StX
inductive Deed where
  | begin (s : Nat) | close (s : Nat) | ask (r : Nat) (n : Str) | use (r : Nat) (n : Str) | later (r : Nat) (n : Str) | run (w : Nat)
  deriving DecidableEq
abbrev CW := Cor × Wks
def getT (g : Gam) (S : Cor) (r : Nat) (n : Str) : Cor × Option Nat := getF g TOP S n r r [n]
/-- ahead of the finish: the state, the answer -/
def preD (g : Gam) (q : CW) : Deed → CW × Option Nat
  | .begin s => ((q.1.opened s, q.2), some q.1.scopes.length)
  | .close s => ((shutF g q.1 s, q.2), none)
  | .ask r n => ((letLoose g (getT g q.1 r n).1 (getT g q.1 r n).2, q.2), (getT g q.1 r n).2)
  | .use r n => ((runU g (getT g q.1 r n).1 r n (getT g q.1 r n).2, q.2), (getT g q.1 r n).2)
  | .later r n => (((getT g q.1 r n).1, ⟨q.2.po + 1, [(q.2.po, r, n, (getT g q.1 r n).2.getD 0)]⟩), some q.2.po)
  | .run w => match q.2.ws with
    | x :: _ => ((runU g q.1 x.2.1 x.2.2.1 (some x.2.2.2), ⟨q.2.po, []⟩), some x.2.2.2)
    | [] => (q, none)
noncomputable def finW (g : Gam) (q : CW) : CW := (finF g q.1 q.2.ws.isEmpty, q.2)
noncomputable def stepD (g : Gam) (q : CW) (d : Deed) : CW × Option Nat := (finW g (preD g q d).1, (preD g q d).2)
def OpenAt (S : Cor) (s : Nat) : Prop := ∃ x, S.scopes[s]? = some x ∧ x.alive = true
def ReqAt (g : Gam) (S : Cor) (r : Nat) (n : Str) : Prop := ∃ x, S.scopes[r]? = some x ∧ x.alive = true ∧ x.level = g.M.depth ∧ (g.M.get n).isSome = true
def Legal (g : Gam) (q : CW) : Deed → Prop
  | .begin s => q.2.ws = [] ∧ ∃ x, q.1.scopes[s]? = some x ∧ x.alive = true ∧ x.level < g.M.depth
  | .close s => q.2.ws = [] ∧ s ≠ 0 ∧ OpenAt q.1 s ∧ ∀ (i : Nat) (x : Scp), q.1.scopes[i]? = some x → x.alive = true → x.under ≠ some s
  | .ask r n => q.2.ws = [] ∧ ReqAt g q.1 r n
  | .use r n => q.2.ws = [] ∧ ReqAt g q.1 r n
  | .later r n => q.2.ws = [] ∧ ReqAt g q.1 r n
  | .run w => ∃ r n k t, q.2.ws = [(w, r, n, k)] ∧ OpenAt q.1 r ∧ q.1.things[k]? = some t ∧ t.name = n
theorem opened_ok {d : Nat} {S : Cor} (ok : ScOk d S.scopes) {s : Nat} {x : Scp} (e : S.scopes[s]? = some x) (ha : x.alive = true) (hl : x.level < d) : ScOk d (S.opened s).scopes := by
  have hs := (List.getElem?_eq_some_iff.mp e).1
  have old : ∀ {i : Nat} {y : Scp}, S.scopes[i]? = some y → (S.opened s).scopes[i]? = some y := fun h => by
    show (S.scopes ++ _)[_]? = _
    rw [List.getElem?_append_left (List.getElem?_eq_some_iff.mp h).1, h]
  have inv : ∀ {i : Nat} {y : Scp}, (S.opened s).scopes[i]? = some y → S.scopes[i]? = some y ∨ (i = S.scopes.length ∧ y = ⟨lvl S.scopes s + 1, some s, true⟩) := fun {i y} h => by
    have h : (S.scopes ++ [(⟨lvl S.scopes s + 1, some s, true⟩ : Scp)])[i]? = some y := h
    by_cases q : i < S.scopes.length
    · rw [List.getElem?_append_left q] at h; exact .inl h
    · rw [List.getElem?_append_right (by omega)] at h
      obtain ⟨h1, h2⟩ := List.getElem?_eq_some_iff.mp h
      have h1 : i - S.scopes.length < 1 := h1
      have h3 : i = S.scopes.length := by omega
      subst h3
      simp at h2
      exact .inr ⟨rfl, h2.symm⟩
  refine ⟨old ok.z, fun i y h hi => ?_, fun i y h => ?_⟩
  · rcases inv h with h | ⟨rfl, rfl⟩
    · obtain ⟨u, z, h1, h2, h3, h4, h5⟩ := ok.up i y h hi
      exact ⟨u, z, h1, h2, old h3, h4, h5⟩
    · exact ⟨s, x, rfl, hs, old e, by show lvl S.scopes s + 1 = _; rw [lvl_of e], fun _ => ha⟩
  · rcases inv h with h | ⟨rfl, rfl⟩
    · exact ok.lv i y h
    · show lvl S.scopes s + 1 ≤ d
      rw [lvl_of e]
      omega
theorem close_ok {d : Nat} {S : Cor} (ok : ScOk d S.scopes) {s : Nat} (hs : s ≠ 0) (hu : ∀ (i : Nat) (x : Scp), S.scopes[i]? = some x → x.alive = true → x.under ≠ some s) : ScOk d (S.close s).scopes := by
  cases e : S.scopes[s]? with
  | none => unfold Cor.close; rw [e]; exact ok
  | some x =>
    rw [close_of e]
    have here : (S.setS s { x with alive := false }).scopes[s]? = some { x with alive := false } := set_here e
    have there : ∀ {i : Nat}, i ≠ s → (S.setS s { x with alive := false }).scopes[i]? = S.scopes[i]? := fun h => set_get h
    refine ⟨by rw [there (Ne.symm hs)]; exact ok.z, fun i y h hi => ?_, fun i y h => ?_⟩
    · by_cases q : i = s
      · subst q
        rw [here] at h
        cases h
        obtain ⟨u, z, h1, h2, h3, h4, _⟩ := ok.up i x e hi
        exact ⟨u, z, h1, h2, by rw [there (by omega)]; exact h3, h4, fun z => by cases z⟩
      · rw [there q] at h
        obtain ⟨u, z, h1, h2, h3, h4, h5⟩ := ok.up i y h hi
        by_cases q2 : u = s
        · subst q2
          rw [e] at h3
          cases h3
          exact ⟨u, _, h1, h2, here, h4, fun z => absurd h1 (hu i y h z)⟩
        · exact ⟨u, z, h1, h2, by rw [there q2]; exact h3, h4, h5⟩
    · by_cases q : i = s
      · subst q
        rw [here] at h
        cases h
        exact ok.lv i x e
      · rw [there q] at h
        exact ok.lv i y h
theorem addS_wf {g : Gam} {S : Cor} {z : Scp} (wf : WF g S) (ok : ScOk g.M.depth (S.addS z).scopes) : WF g (S.addS z) := ⟨ok, ⟨wf.b.th, wf.b.kp⟩, wf.lo⟩
theorem close_wf {g : Gam} {S : Cor} {s : Nat} (wf : WF g S) (ok : ScOk g.M.depth (S.close s).scopes) : WF g (S.close s) := by
  have e1 : (S.close s).things = S.things := close_things S s
  have e2 : (S.close s).kept = S.kept := by unfold Cor.close; split <;> rfl
  have e3 : (S.close s).loose = S.loose := by unfold Cor.close; split <;> rfl
  refine ⟨ok, ⟨fun k t h e => ?_, fun e he => ?_⟩, fun n hn => ?_⟩
  · rw [e1] at e ⊢; exact wf.b.th k t h e
  · rw [e2] at he; rw [e1]; exact wf.b.kp e he
  · rw [e3] at hn; rw [e1]; exact wf.lo n hn
theorem shut_le (g : Gam) (S : Cor) (s : Nat) : EndLe (S.close s) (shutF g S s) := foldl_keep (P := EndLe) EndLe.refl (fun _ _ _ => EndLe.trans) (shutStep_le g s) _ _
/-- somebody is got -/
theorem get_some {g : Gam} {S : Cor} {r : Nat} {n : Str} {x : Scp} (mok : g.M.Ok) (e : S.scopes[r]? = some x) (hl : x.level = g.M.depth) (hn : (g.M.get n).isSome = true) : ∃ k, (getT g S r n).2 = some k := by
  obtain ⟨p, hp⟩ := some_of hn
  unfold getT
  rw [show TOP = 5 + 1 from rfl, getF_succ]
  split
  · exact ⟨_, rfl⟩
  · have hle : g.M.life n ≤ g.M.depth := by rw [life_of hp]; exact (mok.life n p hp).2
    have hpl : placeOf g S.scopes n r = some (anc S.scopes r (g.M.life n)) := by unfold placeOf; rw [lvl_of e, hl, if_pos hle]
    rw [hpl]
    show ∃ k, (match kget S.kept n (anc S.scopes r (g.M.life n)) with | some k => (S, some k) | none => _ : Cor × Option Nat).2 = some k
    cases kget S.kept n (anc S.scopes r (g.M.life n)) with
    | some k => exact ⟨k, rfl⟩
    | none => exact ⟨_, rfl⟩
theorem runU_wf {g : Gam} {S : Cor} {r : Nat} {n : Str} {o : Option Nat} (mok : g.M.Ok) (wf : WF g S) (h : Is S o n) : WF g (runU g S r n o) := by
  cases o with
  | none => exact wf
  | some k => exact use_wf mok TOP (letLoose_wf h wf)
theorem pre_wf {g : Gam} (mok : g.M.Ok) {q : CW} {d : Deed} (wf : WF g q.1) (h : Legal g q d) : WF g (preD g q d).1.1 := by
  cases d with
  | begin s =>
    obtain ⟨_, x, e, ha, hl⟩ := h
    exact addS_wf wf (opened_ok wf.ok e ha hl)
  | close s =>
    obtain ⟨_, hs, _, hu⟩ := h
    exact (shut_le g q.1 s).wf (close_wf wf (close_ok wf.ok hs hu))
  | ask r n =>
    obtain ⟨_, x, e, ha, hl, hn⟩ := h
    obtain ⟨w1, i1⟩ := get_wf mok TOP (s := r) (req := r) (p := [n]) hn wf
    exact letLoose_wf i1 w1
  | use r n =>
    obtain ⟨_, x, e, ha, hl, hn⟩ := h
    obtain ⟨w1, i1⟩ := get_wf mok TOP (s := r) (req := r) (p := [n]) hn wf
    exact runU_wf mok w1 i1
  | later r n =>
    obtain ⟨_, x, e, ha, hl, hn⟩ := h
    exact (get_wf mok TOP (s := r) (req := r) (p := [n]) hn wf).1
  | run w =>
    obtain ⟨r, n, k, t, e, _, et, hn⟩ := h
    unfold preD
    rw [e]
    exact runU_wf (o := some k) (n := n) mok wf fun j hj => (by cases hj; exact ⟨t, et, hn⟩)
theorem leftFold_wf {g : Gam} {T : List Thg} {l : List Nat} {S : Cor} (wf : WF g S) : WF g (l.foldl (leftStep g T) S) := by
  have h := leftFold g T l S
  refine ⟨by rw [h.sc]; exact wf.ok, ⟨fun k t hB e => ?_, fun e he => ?_⟩, fun n hn => ?_⟩
  · rw [h.th] at e ⊢; exact wf.b.th k t hB e
  · rw [h.ke] at he; rw [h.th]; exact wf.b.kp e he
  · rw [h.lo] at hn; rw [h.th]; exact wf.lo n hn
theorem fin_wf {g : Gam} {S : Cor} {b : Bool} (wf : WF g S) : WF g (finF g S b) := by
  rw [finF_eq]
  split
  · exact leftFold_wf (finS1_wf wf)
  · exact finS1_wf wf
theorem stepD_wf {g : Gam} (mok : g.M.Ok) {q : CW} {d : Deed} (wf : WF g q.1) (h : Legal g q d) : WF g (stepD g q d).1.1 := fin_wf (pre_wf mok wf h)
end K94
set_option maxHeartbeats 4000000
/-! the deeds: walked -/
namespace K94
open PySem PySem.Spec PyProof.Rows L2 StX
section
variable {P : Program} {w : World} {K : PySem.W.Frag} {mg : Str → Option Value} {base : Heap} {f : Addr} {fd : FuncData}
/-- what a deed's method must be given, and gives -/
def DPre (K : PySem.W.Frag) (g : Gam) (H0 H : Hp) (A : Ad) (S : Cor) (W : Wks) (d : Deed) : Prop := Ctr K g H0 H A S W ∧ WF g S ∧ Legal g (S, W) d ∧ S.scopes.length < 1000 ∧ sz (preD g (S, W) d).1.1 ≤ BIG ∧ sz (stepD g (S, W) d).1.1 ≤ BIG
def DPost (K : PySem.W.Frag) (g : Gam) (H0 H : Hp) (A : Ad) (S : Cor) (W : Wks) (d : Deed) (Q : VK) : Prop := ∀ H' A', Ctr K g H0 H' A' (stepD g (S, W) d).1.1 (stepD g (S, W) d).1.2 → A'.a .self = A.a .self → Tups H H' → Q (oV (stepD g (S, W) d).2) H'
def spD (K : PySem.W.Frag) (args : List V) (d : Deed) : Sp := fun vs H Q _ => ∃ g H0 A S W, vs = .ref (A.a .self) :: args ∧ DPre K g H0 H A S W d ∧ DPost K g H0 H A S W d Q
theorem oV_flat (o : Option Nat) : flatV (oV o) = true := by cases o <;> rfl
theorem opV_eq (sc : List Scp) (n : Nat) : (opN sc n).map (·.2) = ((List.range n).filter (alv sc)).map fun (i : Nat) => oV (undO sc i) := by unfold opN; rw [List.map_map]; rfl
theorem opV_flat (sc : List Scp) (n : Nat) : ((opN sc n).map (·.2)).all flatV = true := by
  rw [opV_eq, List.all_map, List.all_eq_true]
  exact fun i _ => oV_flat _
theorem eqV_oV (o : Option Nat) (s : Nat) : eqV (oV o) (.int (s : Nat)) = decide (o = some s) := by
  cases o with
  | none => rfl
  | some n =>
    show (((n : Nat) : Int) == ((s : Nat) : Int)) = _
    by_cases q : n = s
    · subst q; simp
    · rw [decide_eq_false fun z => q (by cases z; rfl)]
      exact beq_eq_false_iff_ne.mpr fun z => q (by omega)
theorem opV_in {sc : List Scp} {s : Nat} (h : ∀ (i : Nat) (x : Scp), sc[i]? = some x → x.alive = true → x.under ≠ some s) : inV (.int (s : Nat)) ((opN sc sc.length).map (·.2)) = false := by
  rw [opV_eq]
  unfold inV
  rw [List.any_map, List.any_eq_false]
  intro i hi
  obtain ⟨h1, h2⟩ := List.mem_filter.mp hi
  have e := List.getElem?_eq_getElem (List.mem_range.mp h1)
  rw [alv_of e] at h2
  show ¬ eqV (oV (undO sc i)) (.int (s : Nat)) = true
  rw [eqV_oV, undO_of e]
  exact fun z => h i _ e h2 (of_decide_eq_true z)
theorem wks_nil {g : Gam} {H0 H : Hp} {A : Ad} {S : Cor} {W : Wks} {K : PySem.W.Frag} (c : Ctr K g H0 H A S W) (h : W.ws = []) : A.wv = [] := by
  have z := Paired.length c.wks
  rw [h] at z
  exact List.length_eq_zero_iff.mp z
theorem wk_nil {A : Ad} {W : Wks} (h : W.ws = []) : wkDict W.ws A.wv = [] := by rw [h]; rfl
def spBegin (K : PySem.W.Frag) : Sp := fun vs H Q E => ∃ s : Nat, spD K [.int (s : Nat)] (.begin s) vs H Q E
def spClose (K : PySem.W.Frag) : Sp := fun vs H Q E => ∃ s : Nat, spD K [.int (s : Nat)] (.close s) vs H Q E
def spAsk (K : PySem.W.Frag) : Sp := fun vs H Q E => ∃ (r : Nat) (n : Str), spD K [.int (r : Nat), .str n] (.ask r n) vs H Q E
def spUseD (K : PySem.W.Frag) : Sp := fun vs H Q E => ∃ (r : Nat) (n : Str), spD K [.int (r : Nat), .str n] (.use r n) vs H Q E
def spLater (K : PySem.W.Frag) : Sp := fun vs H Q E => ∃ (r : Nat) (n : Str), spD K [.int (r : Nat), .str n] (.later r n) vs H Q E
def spRun (K : PySem.W.Frag) : Sp := fun vs H Q E => ∃ k : Nat, spD K [.int (k : Nat)] (.run k) vs H Q E

theorem ok_begin {k : Nat} (hk : 10 ≤ k) (F : FnP K "begin" "Container.begin" s_Container_begin f fd) (T : Txt K mg) (m_Container_is_open : GM P w K mg base 2 (CContainer K) "is_open" P_Container_is_open (spIsOpen K)) (p_Parts_depth : PR P w K mg base (CParts K) "depth" "g_depth")
    (m_Container_opened : GM P w K mg base 3 (CContainer K) "opened" P_Container_opened (spOpened K)) (m_Container_finish : GM P w K mg base k (CContainer K) "finish" P_Container_finish (spFinish K)) : FnOk P w K mg base CX0 (k + 1) f fd P_Container_begin (spBegin K) := by
  refine okD F sc_Container_begin (fun vs H Q E h => ?_) (fun cdv A outer s H vs Q E hr h => ?_)
  · obtain ⟨_, _, _, _, _, _, rfl, _⟩ := h; rfl
  · obtain ⟨sc, g, H0, A, S, W, rfl, hp, q⟩ := h
    have nd := sc_Container_begin.nd
    refine ⟨_, pss_cons (ps_if (PW.pt (pw_or (pt_not (pt_val (pe_m m_Container_is_open (hr.mono (by omega)) (pv 0) (pa_cons (pv 1) pa_nil)))) (pw_or1 (pt_cmpR op_ge (pe_f (pe_dget (hu_of hr) (pe_f (pv 0) T.c_Container T.n_Container_c_scopes) (pv 1) (fun _ _ => rfl)) T.c_Scope T.n_Scope_level) (pe_pr p_Parts_depth (hr.mono (by omega)) (pe_f (pv 0) T.c_Container T.n_Container_c_parts)) (nomark _)))))
      (pss_never)
      (pss_nil))
    (pss_cons (ps_set (i := 2) nd rfl (Or.inl rfl) (pe_m m_Container_opened (hr.mono (by omega)) (pv 0) (pa_cons (pv 1) pa_nil)))
    (pss_cons (ps_expr (pe_m0 m_Container_finish hr (pv 0)))
    (pss_one (ps_ret (pv 2))))), ?_⟩
    obtain ⟨c, wf, ⟨_, x, e, ha, hl⟩, hsc, hz1, hz2⟩ := id hp
    obtain ⟨dxp, gd, kvs, pt⟩ := c.parts
    refine ⟨_, rfl, _, _, _, rfl, c.self, no_Container_is_open, _, rfl, g, H0, A, S, W, sc, x, rfl, c, e, _, rfl, ?_⟩
    rw [ha]
    refine iteF ⟨_, rfl, _, _, _, _, rfl, c.self, lk_Container_c_scopes, _, rfl, _, _, rfl, c.dscope e, _, _, _, _, rfl, c.scope e, lk_Scope_level, _, rfl, _, _, _, _, rfl, c.self, lk_Container_c_parts, _, _, _, _, rfl, pt.self, lk_Parts_g_depth, _, _, rfl, rfl, _, rfl, ?_⟩
    rw [decide_eq_false (by omega)]
    refine iteF ⟨_, rfl, _, _, _, rfl, c.self, no_Container_opened, _, rfl, g, H0, A, S, W, sc, x, rfl, c, e, by omega, fun A1 H1 c1 ad tu1 => ?_⟩
    have hp' := pre_wf (q := (S, W)) c.st.mok wf hp.2.2.1
    rw [← ad.self]
    exact ⟨_, rfl, _, _, _, rfl, c1.self, no_Container_finish, g, H0, A1, _, _, rfl, c1, hp', by show (S.scopes ++ _).length ≤ 1000; rw [List.length_append, List.length_singleton]; omega, hz2, fun H' A' c' ea' tu' => ⟨_, rfl, q H' A' c' (ea'.trans ad.self) (tu1.trans tu')⟩⟩
theorem ok_close {k : Nat} (hk : 10 ≤ k) (F : FnP K "close" "Container.close" s_Container_close f fd) (T : Txt K mg) (m_Container_is_open : GM P w K mg base 2 (CContainer K) "is_open" P_Container_is_open (spIsOpen K)) (p_Container_scopes : GP P w K mg base 1 (CContainer K) "scopes" (spScopes K))
    (p_Book_works : PR P w K mg base (CBook K) "works" "b_works") (m_Container_shut : GM P w K mg base k (CContainer K) "shut" P_Container_shut (spShut K)) (m_Container_finish : GM P w K mg base k (CContainer K) "finish" P_Container_finish (spFinish K)) : FnOk P w K mg base CX0 (k + 1) f fd P_Container_close (spClose K) := by
  refine okD F sc_Container_close (fun vs H Q E h => ?_) (fun cdv A outer s H vs Q E hr h => ?_)
  · obtain ⟨_, _, _, _, _, _, rfl, _⟩ := h; rfl
  · obtain ⟨sc, g, H0, A, S, W, rfl, hp, q⟩ := h
    have nd := sc_Container_close.nd
    refine ⟨_, pss_cons (ps_if (PW.pt (pw_or (pt_not (pt_val (pe_m m_Container_is_open (hr.mono (by omega)) (pv 0) (pa_cons (pv 1) pa_nil)))) (pw_or1 (pt_cmpR op_eq (pv 1) (pe_int) (nomark _)))))
      (pss_never)
      (pss_nil))
    (pss_cons (ps_if (pt_cmpR (op_in_vals rfl) (pv 1) (pe_vals (pe_p p_Container_scopes (hr.mono (by omega)) (pv 0))) rfl)
      (pss_never)
      (pss_nil))
    (pss_cut (ps_if (PW.pt (pw_and (pt_cmpR op_eq (pe_pr p_Book_works (hr.mono (by omega)) (pe_f (pv 0) T.c_Container T.n_Container_c_book)) (pe_str) (nomark _)) (pw_and1 (pt_cmpR op_in_seq (pv 1) (pe_lock (pe_lc (own := [("work", 2)]) (g := gName 2) rfl nd (pi_values (pe_f (pv 0) T.c_Container T.n_Container_c_works)) (blkOk_by (N := N_Container_close) (sc := defScope s_Container_close) (own := [("work", 2)]) (by decide +kernel)) (fun _ _ _ _ _ => pg_name (i := 2) nd rfl (Or.inl rfl)) (fun _ _ _ _ _ => pts_nil) (fun _ _ _ _ _ => pe_ix (r := rIxT K) ix_tup (pv 2) (pe_int) (fun _ _ => rfl)))) rfl))))
      (pss_never)
      (pss_nil))
    (pss_cons (ps_expr (pe_m m_Container_shut hr (pv 0) (pa_cons (pv 1) pa_nil)))
    (pss_one (ps_expr (pe_m0 m_Container_finish hr (pv 0))))))), ?_⟩
    obtain ⟨c, wf, ⟨hw, hs0, ⟨x, e, ha⟩, hu⟩, hsc, hz1, hz2⟩ := id hp
    refine ⟨_, rfl, _, _, _, rfl, c.self, no_Container_is_open, _, rfl, g, H0, A, S, W, sc, x, rfl, c, e, _, rfl, ?_⟩
    rw [ha]
    refine iteF ⟨_, rfl, rfl, _, rfl, ?_⟩
    rw [decide_eq_false fun z => hs0 (by have := int_iff.mp z; omega)]
    refine iteF ⟨_, rfl, _, rfl, _, _, _, rfl, c.self, g, H0, A, S, W, rfl, c, by omega, fun D H1 s1 nD hD => ?_⟩
    have c1 := c.grow s1
    refine ⟨_, _, rfl, hD, fun p hpn => ?_⟩
    have s2 : Same H1 (upd H1 p (viewO "dict_values" p D)) := Same.new hpn
    have c2 := c1.grow s2
    have tu2 : Tups H (upd H1 p (viewO "dict_values" p D)) := Same.tups (s1.trans s2)
    have hD2 := s2 _ _ hD
    refine ⟨p, D, _, rfl, upd_same, hD2, rfl, ?_, _, rfl, ?_⟩
    · exact opV_flat _ _
    rw [opV_in hu]
    refine iteF ?_
    generalize upd H1 p (viewO "dict_values" p D) = H2 at c2 tu2 hD2 ⊢
    have hp' := pre_wf (q := (S, W)) c.st.mok wf hp.2.2.1
    have wfc : WF g (S.close sc) := close_wf wf (close_ok wf.ok hs0 hu)
    refine ⟨fun σ' H' => ∃ v2, σ' = [some (.ref (A.a .self)), some (.int (sc : Nat)), v2] ∧ Ctr K g H0 H' A S W ∧ Tups H H', ?_, ?_⟩
    · obtain ⟨dxb, tb, bk⟩ := c2.book
      refine ⟨_, rfl, _, _, _, _, rfl, c2.self, lk_Container_c_book, _, _, _, _, rfl, bk.self, lk_Book_b_works, rfl, _, rfl, ?_⟩
      by_cases h : g.bk.works = "wait"
      · rw [decide_eq_true (str_iff.mpr h)]
        refine iteT ⟨_, rfl, A.a .works, _, c2.works, True.intro, fun od => ?_⟩
        generalize hd : A.a .works = d
        have hdn := c2.works
        rw [hd] at hdn
        rw [wk_nil hw] at hdn ⊢
        have k0 : ∀ b o, b ≠ d → H2 b = some o → upd H2 d (.frz od (.dK [])) b = some o := fun b o hb e => by rw [upd_ne hb]; exact e
        have nself : A.a .self ≠ d := ne_of c2.self hdn (by intro z; cases z)
        refine ⟨_, rfl, _, _, _, _, rfl, k0 _ _ nself c2.self, lk_Container_c_works, d, od, [], by rw [← hd], upd_same, ?_⟩
        intro L hL
        have hLd : L ≠ d := fun z => by rw [z, upd_same] at hL; cases hL
        have hL0 : H2 L = none := by rw [upd_ne hLd] at hL; exact hL
        refine lc_it walk_values (fun i H' => H' = upd (upd H2 d (.frz od (.dK []))) L (.lst [])) rfl (fun i H' _ h => by rw [h, upd_ne (Ne.symm hLd), upd_same]) (fun i x H' H'' hi => absurd hi (Nat.not_lt_zero _)) ?_
        rintro H' rfl
        refine ⟨by rw [upd_ne (Ne.symm hLd), upd_same], ?_⟩
        have s3 : Same H2 (upd (upd (upd H2 d (.frz od (.dK []))) L (.lst [])) d (.dK [])) := fun b o e => by
          by_cases hb : b = d
          · subst hb
            rw [upd_same, ← e, hdn]
          · rw [upd_ne hb, upd_ne (ne_of_none e hL0), upd_ne hb]
            exact e
        refine ⟨_, [], rfl, .inl (SqL.of (by rw [upd_ne hLd, upd_same])), rfl, rfl, _, rfl, ?_⟩
        exact iteF ⟨_, rfl, c2.grow s3, tu2.trans (Same.tups s3)⟩
      · rw [decide_eq_false fun z => h (str_iff.mp z)]
        exact iteF ⟨_, rfl, c2, tu2⟩
    · rintro σ' H3 ⟨v2, rfl, c3, tu3⟩
      refine ⟨_, rfl, _, _, _, rfl, c3.self, no_Container_shut, _, rfl, g, H0, A, S, W, sc, x, rfl, c3, wfc, e, fun H4 c4 tu4 => ?_⟩
      have l4 := shut_le g S sc
      have hsc4 : (shutF g S sc).scopes.length ≤ 1000 := by rw [l4.sc, close_of e]; show (S.scopes.set _ _).length ≤ _; rw [List.length_set]; omega
      exact ⟨_, rfl, _, _, _, rfl, c4.self, no_Container_finish, g, H0, A, _, _, rfl, c4, hp', hsc4, hz2, fun H' A' c' ea' tu' => q H' A' c' ea' ((tu3.trans tu4).trans tu')⟩
end
end K94
set_option maxHeartbeats 4000000
/-! the deeds that ask: walked -/
namespace K94
open PySem PySem.Spec PyProof.Rows L2 StX
theorem loose_pre {g : Gam} {S : Cor} {o : Option Nat} {n : Str} (wf : WF g S) (h : Is S o n) : ∀ k, o = some k → ∃ t, S.things[k]? = some t ∧ (g.M.get t.name).isSome = true := fun k e => by
  obtain ⟨t, e1, e2⟩ := h k e
  exact ⟨t, e1, (wf.th e1).nm⟩
theorem letLoose_name {g : Gam} {S : Cor} {o : Option Nat} {k : Nat} {t : Thg} (e : S.things[k]? = some t) : (letLoose g S o).things[k]? = some t := (grow_letLoose g S o).get e
section
variable {P : Program} {w : World} {K : PySem.W.Frag} {mg : Str → Option Value} {base : Heap} {f : Addr} {fd : FuncData}

theorem ok_ask {k : Nat} (hk : 10 ≤ k) (F : FnP K "ask" "Container.ask" s_Container_ask f fd) (T : Txt K mg) (m_Container_need_request : GM P w K mg base 3 (CContainer K) "need_request" P_Container_need_request (spNeedReq K)) (g_need_part : GF P w K mg base 2 "need_part" P_need_part (spNeedPart K))
    (m_Container_get : GM P w K mg base k (CContainer K) "get" P_Container_get (spGet K TOP)) (m_Container_let_loose : GM P w K mg base 5 (CContainer K) "let_loose" P_Container_let_loose (spLetLoose K)) (m_Container_finish : GM P w K mg base k (CContainer K) "finish" P_Container_finish (spFinish K)) :
    FnOk P w K mg base CX0 (k + 1) f fd P_Container_ask (spAsk K) := by
  refine okD F sc_Container_ask (fun vs H Q E h => ?_) (fun cdv A outer s H vs Q E hr h => ?_)
  · obtain ⟨_, _, _, _, _, _, _, rfl, _⟩ := h; rfl
  · obtain ⟨r, n, g, H0, A, S, W, rfl, hp, q⟩ := h
    have nd := sc_Container_ask.nd
    refine ⟨_, pss_cons (ps_expr (pe_m m_Container_need_request (hr.mono (by omega)) (pv 0) (pa_cons (pv 1) pa_nil)))
    (pss_cons (ps_expr (pe_g g_need_part (hr.mono (by omega)) (pa_cons (pe_f (pv 0) T.c_Container T.n_Container_c_parts) (pa_cons (pv 2) pa_nil))))
    (pss_cons (ps_set (i := 3) nd rfl (Or.inl rfl) (pe_m m_Container_get hr (pv 0) (pa_cons (pv 2) (pa_cons (pv 1) (pa_cons (pv 1) (pa_cons (pe_tup (pa_cons (pv 2) pa_nil)) pa_nil))))))
    (pss_cons (ps_expr (pe_m m_Container_let_loose (hr.mono (by omega)) (pv 0) (pa_cons (pv 3) pa_nil)))
    (pss_cons (ps_expr (pe_m0 m_Container_finish hr (pv 0)))
    (pss_one (ps_ret (pv 3))))))), ?_⟩
    obtain ⟨c, wf, ⟨hw, x, e, ha, hl, hn⟩, hsc, hz1, hz2⟩ := id hp
    obtain ⟨dxp, gd, kvs, pt⟩ := c.parts
    refine ⟨_, rfl, _, _, _, rfl, c.self, no_Container_need_request, _, rfl, g, H0, A, S, W, r, x, rfl, c, e, ha, hl, ?_⟩
    refine ⟨_, rfl, _, _, _, _, rfl, c.self, lk_Container_c_parts, _, rfl, g.pa, g.M, dxp, gd, kvs, n, rfl, pt, hn, ?_⟩
    refine ⟨_, rfl, _, _, _, rfl, c.self, no_Container_get, _, rfl, _, rfl, _, rfl, _, rfl, by show 1 ≤ sizeLine; rw [sizeLine_eq]; decide, fun tp htp => ?_⟩
    have s1 : Same H (upd H tp (.tup [.str n])) := Same.new htp
    have c1 := c.grow s1
    have hzg : sz (getT g S r n).1 ≤ BIG := Nat.le_trans (grow_letLoose g _ _).sz hz1
    refine ⟨g, H0, A, S, W, n, r, r, tp, [n], rfl, c1, upd_same, ⟨wf.ok, ⟨x, e⟩, ⟨x, e, ha⟩, hn⟩, Nat.lt_succ_of_le (c.st.mok.rk5 _), by show 1 + 6 ≤ 100; decide, hzg, fun A1 H1 c2 ad tu => ?_⟩
    have hp' := pre_wf (q := (S, W)) c.st.mok wf hp.2.2.1
    obtain ⟨w1, i1⟩ := get_wf c.st.mok TOP (s := r) (req := r) (p := [n]) hn wf
    have gsc : (getT g S r n).1.scopes.length ≤ 1000 := by rw [show (getT g S r n).1.scopes = S.scopes from (get_grow g TOP S n r r [n]).sc]; omega
    have lsc := (grow_letLoose g (getT g S r n).1 (getT g S r n).2).sc
    unfold DPost stepD finW preD at q
    unfold stepD finW preD at hz2
    unfold preD at hp' hz1
    unfold getT at *
    dsimp only at q hz2 hp' hz1 gsc lsc
    generalize getF g TOP S n r r [n] = z at *
    obtain ⟨S1, o⟩ := z
    dsimp only at *
    rw [← ad.self] at q ⊢
    refine ⟨_, rfl, _, _, _, rfl, c2.self, no_Container_let_loose, _, rfl, g, H0, A1, S1, W, o, rfl, c2, loose_pre w1 i1, hz1, fun H2 c3 tu2 => ?_⟩
    exact ⟨_, rfl, _, _, _, rfl, c3.self, no_Container_finish, g, H0, A1, _, _, rfl, c3, hp', by rw [lsc]; exact gsc, hz2, fun H' A' c' ea' tu' => ⟨_, rfl, q H' A' c' ea' (((Same.tups s1).trans (tu.trans tu2)).trans tu')⟩⟩

theorem ok_use {k : Nat} (hk : 10 ≤ k) (F : FnP K "use" "Container.use" s_Container_use f fd) (T : Txt K mg) (m_Container_need_request : GM P w K mg base 3 (CContainer K) "need_request" P_Container_need_request (spNeedReq K)) (g_need_part : GF P w K mg base 2 "need_part" P_need_part (spNeedPart K))
    (m_Container_get : GM P w K mg base k (CContainer K) "get" P_Container_get (spGet K TOP)) (m_Container_let_loose : GM P w K mg base 5 (CContainer K) "let_loose" P_Container_let_loose (spLetLoose K)) (m_Container_use_thing : GM P w K mg base k (CContainer K) "use_thing" P_Container_use_thing (spUse K TOP))
    (m_Container_finish : GM P w K mg base k (CContainer K) "finish" P_Container_finish (spFinish K)) : FnOk P w K mg base CX0 (k + 1) f fd P_Container_use (spUseD K) := by
  refine okD F sc_Container_use (fun vs H Q E h => ?_) (fun cdv A outer s H vs Q E hr h => ?_)
  · obtain ⟨_, _, _, _, _, _, _, rfl, _⟩ := h; rfl
  · obtain ⟨r, n, g, H0, A, S, W, rfl, hp, q⟩ := h
    have nd := sc_Container_use.nd
    refine ⟨_, pss_cons (ps_expr (pe_m m_Container_need_request (hr.mono (by omega)) (pv 0) (pa_cons (pv 1) pa_nil)))
    (pss_cons (ps_expr (pe_g g_need_part (hr.mono (by omega)) (pa_cons (pe_f (pv 0) T.c_Container T.n_Container_c_parts) (pa_cons (pv 2) pa_nil))))
    (pss_cons (ps_set (i := 3) nd rfl (Or.inl rfl) (pe_m m_Container_get hr (pv 0) (pa_cons (pv 2) (pa_cons (pv 1) (pa_cons (pv 1) (pa_cons (pe_tup (pa_cons (pv 2) pa_nil)) pa_nil))))))
    (pss_cons (ps_expr (pe_m m_Container_let_loose (hr.mono (by omega)) (pv 0) (pa_cons (pv 3) pa_nil)))
    (pss_cons (ps_expr (pe_m m_Container_use_thing hr (pv 0) (pa_cons (pv 3) (pa_cons (pv 1) (pa_cons (pe_tup (pa_cons (pv 2) pa_nil)) pa_nil)))))
    (pss_cons (ps_expr (pe_m0 m_Container_finish hr (pv 0)))
    (pss_one (ps_ret (pv 3)))))))), ?_⟩
    obtain ⟨c, wf, ⟨hw, x, e, ha, hl, hn⟩, hsc, hz1, hz2⟩ := id hp
    obtain ⟨dxp, gd, kvs, pt⟩ := c.parts
    obtain ⟨j, hj⟩ := get_some c.st.mok e hl hn
    refine ⟨_, rfl, _, _, _, rfl, c.self, no_Container_need_request, _, rfl, g, H0, A, S, W, r, x, rfl, c, e, ha, hl, ?_⟩
    refine ⟨_, rfl, _, _, _, _, rfl, c.self, lk_Container_c_parts, _, rfl, g.pa, g.M, dxp, gd, kvs, n, rfl, pt, hn, ?_⟩
    refine ⟨_, rfl, _, _, _, rfl, c.self, no_Container_get, _, rfl, _, rfl, _, rfl, _, rfl, by show 1 ≤ sizeLine; rw [sizeLine_eq]; decide, fun tp htp => ?_⟩
    have s1 : Same H (upd H tp (.tup [.str n])) := Same.new htp
    have c1 := c.grow s1
    have hp' := pre_wf (q := (S, W)) c.st.mok wf hp.2.2.1
    obtain ⟨w1, i1⟩ := get_wf c.st.mok TOP (s := r) (req := r) (p := [n]) hn wf
    have gg : Grow S (getT g S r n).1 := get_grow g TOP S n r r [n]
    have gsc : (getT g S r n).1.scopes = S.scopes := gg.sc
    have ll := grow_letLoose g (getT g S r n).1 (some j)
    have lw := letLoose_wf (o := some j) (n := n) (by rw [← hj]; exact i1) w1
    have lu := grow_use g TOP (letLoose g (getT g S r n).1 (some j)) j r [n]
    unfold DPost stepD finW preD runU at q
    unfold stepD finW preD runU at hz2
    unfold preD runU at hp' hz1
    unfold getT at *
    dsimp only at q hz2 hp' hz1 gsc ll lu lw
    generalize hz : getF g TOP S n r r [n] = z at *
    obtain ⟨S1, o⟩ := z
    dsimp only at *
    subst hj
    dsimp only at *
    obtain ⟨tj, ej, en⟩ := i1 j rfl
    have ej2 := ll.get ej
    refine ⟨g, H0, A, S, W, n, r, r, tp, [n], rfl, c1, upd_same, ⟨wf.ok, ⟨x, e⟩, ⟨x, e, ha⟩, hn⟩, Nat.lt_succ_of_le (c.st.mok.rk5 _), by show 1 + 6 ≤ 100; decide, by rw [hz]; exact Nat.le_trans (Nat.le_trans ll.sz lu.sz) hz1, ?_⟩
    rw [hz]
    intro A1 H1 c2 ad tu
    rw [← ad.self] at q ⊢
    refine ⟨_, rfl, _, _, _, rfl, c2.self, no_Container_let_loose, _, rfl, g, H0, A1, S1, W, some j, rfl, c2, loose_pre w1 i1, Nat.le_trans lu.sz hz1, fun H2 c3 tu2 => ?_⟩
    refine ⟨_, rfl, _, _, _, rfl, c3.self, no_Container_use_thing, _, rfl, _, rfl, _, rfl, by show 1 ≤ sizeLine; rw [sizeLine_eq]; decide, fun t2 ht2 => ?_⟩
    have s3 : Same H2 (upd H2 t2 (.tup [.str n])) := Same.new ht2
    have c4 := c3.grow s3
    refine ⟨g, H0, A1, _, W, j, r, t2, [n], tj, x, rfl, c4, upd_same, lw, ej2, Nat.lt_succ_of_le (c.st.mok.rk5 _), by rw [ll.sc, gsc]; exact e, ha, by show 1 + 6 + 10 ≤ 100; decide, hz1, fun A2 H3 c5 ad5 tu5 => ?_⟩
    rw [← ad5.self] at q ⊢
    exact ⟨_, rfl, _, _, _, rfl, c5.self, no_Container_finish, g, H0, A2, _, _, rfl, c5, hp', by rw [lu.sc, ll.sc, gsc]; omega, hz2, fun H' A' c' ea' tu' => ⟨_, rfl, q H' A' c' ea' (((Same.tups s1).trans (tu.trans (tu2.trans ((Same.tups s3).trans tu5)))).trans tu')⟩⟩

theorem ok_later {k : Nat} (hk : 10 ≤ k) (F : FnP K "later" "Container.later" s_Container_later f fd) (T : Txt K mg) (m_Container_need_request : GM P w K mg base 3 (CContainer K) "need_request" P_Container_need_request (spNeedReq K)) (g_need_part : GF P w K mg base 2 "need_part" P_need_part (spNeedPart K))
    (p_Book_works : PR P w K mg base (CBook K) "works" "b_works") (m_Container_get : GM P w K mg base k (CContainer K) "get" P_Container_get (spGet K TOP)) (m_Container_finish : GM P w K mg base k (CContainer K) "finish" P_Container_finish (spFinish K)) :
    FnOk P w K mg base CX0 (k + 1) f fd P_Container_later (spLater K) := by
  refine okD F sc_Container_later (fun vs H Q E h => ?_) (fun cdv A outer s H vs Q E hr h => ?_)
  · obtain ⟨_, _, _, _, _, _, _, rfl, _⟩ := h; rfl
  · obtain ⟨r, n, g, H0, A, S, W, rfl, hp, q⟩ := h
    have nd := sc_Container_later.nd
    refine ⟨_, pss_cons (ps_expr (pe_m m_Container_need_request (hr.mono (by omega)) (pv 0) (pa_cons (pv 1) pa_nil)))
    (pss_cons (ps_expr (pe_g g_need_part (hr.mono (by omega)) (pa_cons (pe_f (pv 0) T.c_Container T.n_Container_c_parts) (pa_cons (pv 2) pa_nil))))
    (pss_cons (ps_set (i := 3) nd rfl (Or.inl rfl) (pe_ifExp (pt_cmpR op_eq (pe_pr p_Book_works (hr.mono (by omega)) (pe_f (pv 0) T.c_Container T.n_Container_c_book)) (pe_str) (nomark _)) (pe_non) (pe_m m_Container_get hr (pv 0) (pa_cons (pv 2) (pa_cons (pv 1) (pa_cons (pv 1) (pa_cons (pe_tup (pa_cons (pv 2) pa_nil)) pa_nil)))))))
    (pss_cons (ps_set (i := 4) nd rfl (Or.inl rfl) (pe_f (pv 0) T.c_Container T.n_Container_c_put_off))
    (pss_cons (ps_dput (hu_of hr) (pe_f (pv 0) T.c_Container T.n_Container_c_works) (pv 4) (pe_tup (pa_cons (pv 1) (pa_cons (pv 2) (pa_cons (pv 3) pa_nil)))) rfl)
    (pss_cons (ps_f (pv 0) (pe_op op_add (pv 4) (pe_int)) T.c_Container T.n_Container_c_put_off)
    (pss_cons (ps_expr (pe_m0 m_Container_finish hr (pv 0)))
    (pss_one (ps_ret (pv 4))))))))), ?_⟩
    obtain ⟨c, wf, ⟨hw, x, e, ha, hl, hn⟩, hsc, hz1, hz2⟩ := id hp
    obtain ⟨dxp, gd, kvs, pt⟩ := c.parts
    obtain ⟨dxb, tb, bk⟩ := c.book
    obtain ⟨j, hj⟩ := get_some c.st.mok e hl hn
    refine ⟨_, rfl, _, _, _, rfl, c.self, no_Container_need_request, _, rfl, g, H0, A, S, W, r, x, rfl, c, e, ha, hl, ?_⟩
    refine ⟨_, rfl, _, _, _, _, rfl, c.self, lk_Container_c_parts, _, rfl, g.pa, g.M, dxp, gd, kvs, n, rfl, pt, hn, ?_⟩
    refine ⟨_, rfl, _, _, _, _, rfl, c.self, lk_Container_c_book, _, _, _, _, rfl, bk.self, lk_Book_b_works, rfl, _, rfl, ?_⟩
    have hown : g.bk.works ≠ "own" := fun z => by
      rcases c.st.bok with y | y <;> rw [y] at z <;> exact absurd z (by decide)
    rw [decide_eq_false fun z => hown (str_iff.mp z)]
    refine iteF ⟨_, rfl, _, _, _, rfl, c.self, no_Container_get, _, rfl, _, rfl, _, rfl, _, rfl, by show 1 ≤ sizeLine; rw [sizeLine_eq]; decide, fun tp htp => ?_⟩
    have s1 : Same H (upd H tp (.tup [.str n])) := Same.new htp
    have c1 := c.grow s1
    have hp' := pre_wf (q := (S, W)) c.st.mok wf hp.2.2.1
    obtain ⟨w1, i1⟩ := get_wf c.st.mok TOP (s := r) (req := r) (p := [n]) hn wf
    have gg : Grow S (getT g S r n).1 := get_grow g TOP S n r r [n]
    have gsc : (getT g S r n).1.scopes = S.scopes := gg.sc
    unfold DPost stepD finW preD at q
    unfold stepD finW preD at hz2
    unfold preD at hp' hz1
    unfold getT at *
    dsimp only at q hz2 hp' hz1 gsc
    generalize hz : getF g TOP S n r r [n] = z at *
    obtain ⟨S1, o⟩ := z
    dsimp only at *
    subst hj
    refine ⟨g, H0, A, S, W, n, r, r, tp, [n], rfl, c1, upd_same, ⟨wf.ok, ⟨x, e⟩, ⟨x, e, ha⟩, hn⟩, Nat.lt_succ_of_le (c.st.mok.rk5 _), by show 1 + 6 ≤ 100; decide, by rw [hz]; exact hz1, ?_⟩
    rw [hz]
    rw [show oV (S1, some j).2 = V.int (j : Nat) from rfl]
    intro A1 H1 c2 ad tu
    rw [← ad.self] at q ⊢
    refine ⟨_, rfl, _, _, _, _, rfl, c2.self, lk_Container_c_put_off, ?_⟩
    refine ⟨_, rfl, _, rfl, _, rfl, by show 3 ≤ sizeLine; rw [sizeLine_eq]; decide, fun t2 ht2 => ?_⟩
    have s3 : Same H1 (upd H1 t2 (.tup [.int (r : Nat), .str n, .int (j : Nat)])) := Same.new ht2
    have hw2 : WorkAt (upd H1 t2 (.tup [.int (r : Nat), .str n, .int (j : Nat)])) t2 (W.po, r, n, j) := upd_same
    have c3 := c2.grow s3
    have tu3 := (Same.tups s1).trans (tu.trans (Same.tups s3))
    generalize upd H1 t2 (.tup [.int (r : Nat), .str n, .int (j : Nat)]) = H2 at c3 hw2 tu3 ⊢
    have hwk := c3.works
    rw [wk_nil hw] at hwk
    refine ⟨_, rfl, _, _, _, _, rfl, c3.self, lk_Container_c_works, _, rfl, _, _, rfl, DPut.k (k := Sum.inl (W.po : Int)) hwk (by rw [sizeLine_eq]; decide), ?_⟩
    have c4 := c3.wWork (x := (W.po, r, n, j)) hw2
    have tu4 := tu3.trans (c3.tups (o2 := .dK [(Sum.inl (W.po : Int), .ref t2)]) .works rfl True.intro)
    have ep : putK ([] : List (Key × V)) (Sum.inl (W.po : Int)) (.ref t2) = [(Sum.inl (W.po : Int), .ref t2)] := rfl
    rw [ep]
    generalize upd H2 (A1.a .works) (.dK [(Sum.inl (W.po : Int), .ref t2)]) = H3 at c4 tu4 ⊢
    have ea : ({ A1 with wv := [t2] } : Ad).a .self = A1.a .self := rfl
    generalize ({ A1 with wv := [t2] } : Ad) = A2 at c4 ea
    rw [← ea] at q ⊢
    refine ⟨_, rfl, _, _, rfl, rfl, _, rfl, _, _, _, rfl, c4.self, len_Container, ?_⟩
    have c5 := c4.wPo (n := W.po + 1)
    have epf : putF "c_put_off" (.int ((W.po : Int) + 1)) (selfFs g A2 W.po) = selfFs g A2 (W.po + 1) := pf_Container_c_put_off
    have tu5 := tu4.trans (c4.tups (o2 := .ins (CContainer K) (A2.d .self) (selfFs g A2 (W.po + 1))) .self rfl True.intro)
    rw [epf]
    generalize upd H3 (A2.a .self) (.ins (CContainer K) (A2.d .self) (selfFs g A2 (W.po + 1))) = H4 at c5 tu5 ⊢
    exact ⟨_, rfl, _, _, _, rfl, c5.self, no_Container_finish, g, H0, A2, _, _, rfl, c5, hp', by rw [gsc]; omega, hz2, fun H' A' c' ea' tu' => ⟨_, rfl, q H' A' c' ea' (tu5.trans tu')⟩⟩

theorem ok_run {k : Nat} (hk : 10 ≤ k) (F : FnP K "run" "Container.run" s_Container_run f fd) (T : Txt K mg) (g_is_number : GF P w K mg base 1 "is_number" P_is_number spIsNumber) (p_Book_works : PR P w K mg base (CBook K) "works" "b_works") (p_Parts_depth : PR P w K mg base (CParts K) "depth" "g_depth")
    (m_Container_opened : GM P w K mg base 3 (CContainer K) "opened" P_Container_opened (spOpened K)) (m_Container_get : GM P w K mg base k (CContainer K) "get" P_Container_get (spGet K TOP)) (m_Container_let_loose : GM P w K mg base 5 (CContainer K) "let_loose" P_Container_let_loose (spLetLoose K))
    (m_Container_use_thing : GM P w K mg base k (CContainer K) "use_thing" P_Container_use_thing (spUse K TOP)) (m_Container_shut : GM P w K mg base k (CContainer K) "shut" P_Container_shut (spShut K)) (m_Container_finish : GM P w K mg base k (CContainer K) "finish" P_Container_finish (spFinish K)) :
    FnOk P w K mg base CX0 (k + 1) f fd P_Container_run (spRun K) := by
  refine okD F sc_Container_run (fun vs H Q E h => ?_) (fun cdv A outer s H vs Q E hr h => ?_)
  · obtain ⟨_, _, _, _, _, _, rfl, _⟩ := h; rfl
  · obtain ⟨wk, g, H0, A, S, W, rfl, hp, q⟩ := h
    have nd := sc_Container_run.nd
    refine ⟨_, pss_cons (ps_if (PW.pt (pw_or (pt_not (pt_val (pe_g g_is_number (hr.mono (by omega)) (pa_cons (pv 1) pa_nil)))) (pw_or1 (pt_cmp (pc_dnotin (hu_of hr) (pv 1) (pe_f (pv 0) T.c_Container T.n_Container_c_works))))))
      (pss_never)
      (pss_nil))
    (pss_cons (ps_asg (pe_dget (hu_of hr) (pe_f (pv 0) T.c_Container T.n_Container_c_works) (pv 1) (fun _ _ => rfl)) (pg_tup rfl (pgs_cons (pg_name (i := 2) nd rfl (Or.inl rfl)) (pgs_cons (pg_name (i := 3) nd rfl (Or.inl rfl)) (pgs_cons (pg_name (i := 4) nd rfl (Or.inl rfl)) pgs_nil)))))
    (pss_cons (ps_set (i := 5) nd rfl (Or.inl rfl) (pe_lst (pa_nil)))
    (pss_cut (ps_if (pt_cmpR op_eq (pe_pr p_Book_works (hr.mono (by omega)) (pe_f (pv 0) T.c_Container T.n_Container_c_book)) (pe_str) (nomark _))
      (pss_cons (ps_set (i := 2) nd rfl (Or.inl rfl) (pe_int))
      (pss_cons (ps_for PassesOwn.never rfl (pi_range1 (by rfl) T.f_range (pa_cons (pe_pr p_Parts_depth (hr.mono (by omega)) (pe_f (pv 0) T.c_Container T.n_Container_c_parts)) pa_nil)) (pg_name (i := 6) nd rfl (Or.inl rfl))
        (pss_cons (ps_set (i := 2) nd rfl (Or.inl rfl) (pe_m m_Container_opened (hr.mono (by omega)) (pv 0) (pa_cons (pv 2) pa_nil)))
        (pss_one (ps_set (i := 5) nd rfl (Or.inl rfl) (pe_lst (pa_cons (pv 2) (pa_star (pv 5) (pa_nil))))))))
      (pss_one (ps_set (i := 4) nd rfl (Or.inl rfl) (pe_m m_Container_get hr (pv 0) (pa_cons (pv 3) (pa_cons (pv 2) (pa_cons (pv 2) (pa_cons (pe_tup (pa_cons (pv 3) pa_nil)) pa_nil)))))))))
      (pss_nil))
    (pss_cons (ps_expr (pe_m m_Container_let_loose (hr.mono (by omega)) (pv 0) (pa_cons (pv 4) pa_nil)))
    (pss_cons (ps_expr (pe_m m_Container_use_thing hr (pv 0) (pa_cons (pv 4) (pa_cons (pv 2) (pa_cons (pe_tup (pa_cons (pv 3) pa_nil)) pa_nil)))))
    (pss_cons (ps_for PassesOwn.never rfl (pi_list (pv 5)) (pg_name (i := 7) nd rfl (Or.inl rfl))
      (pss_one (ps_expr (pe_m m_Container_shut hr (pv 0) (pa_cons (pv 7) pa_nil)))))
    (pss_cons (ps_f (pv 0) (pe_lock (pe_dc (own := [("other", 8)]) (g := gName 8) rfl nd (pi_keys (pe_f (pv 0) T.c_Container T.n_Container_c_works)) (blkOk_by (N := N_Container_run) (sc := defScope s_Container_run) (own := [("other", 8)]) (by decide +kernel)) (fun _ _ _ _ _ => pg_name (i := 8) nd rfl (Or.inl rfl)) (fun _ _ _ _ _ => pts_one (pt_cmpR op_ne (pv 8) (pv 1) (nomark _))) (fun _ _ _ _ _ => pv 8) (fun _ _ _ _ _ => pe_dget (hu_of hr) (pe_f (pv 0) T.c_Container T.n_Container_c_works) (pv 8) (fun _ _ => rfl)))) T.c_Container T.n_Container_c_works)
    (pss_cons (ps_expr (pe_m0 m_Container_finish hr (pv 0)))
    (pss_one (ps_ret (pv 4))))))))))), ?_⟩
    obtain ⟨c, wf, ⟨r, n, kk, t, hw, ⟨y, ey, ha⟩, et, en⟩, hsc, hz1, hz2⟩ := id hp
    have hw : W.ws = [(wk, r, n, kk)] := hw
    have hp' := pre_wf (q := (S, W)) c.st.mok wf hp.2.2.1
    have is1 : Is S (some kk) n := fun j hj => by cases hj; exact ⟨t, et, en⟩
    have e1 : preD g (S, W) (.run wk) = ((runU g S r n (some kk), ⟨W.po, []⟩), some kk) := by unfold preD; rw [show ((S, W) : CW).2.ws = _ from hw]
    unfold DPost stepD finW at q
    unfold stepD finW at hz2
    rw [e1] at q hz2 hz1 hp'
    unfold runU at q hz2 hz1 hp'
    dsimp only at q hz2 hz1 hp'
    have lw := letLoose_wf is1 wf
    have ll := grow_letLoose g S (some kk)
    have lu := grow_use g TOP (letLoose g S (some kk)) kk r [n]
    -- what waits
    obtain ⟨a, hA, hwa⟩ : ∃ a, A.wv = [a] ∧ WorkAt H a (wk, r, n, kk) := by
      have z := c.wks
      rw [hw] at z
      generalize A.wv = l at z
      cases z with
      | cons h1 h2 => cases h2; exact ⟨_, rfl, h1⟩
    have ed : wkDict W.ws A.wv = [(Sum.inl (wk : Int), .ref a)] := by rw [hw, hA]; rfl
    have hwk := c.works
    rw [ed] at hwk
    have vg : valV ([(Sum.inl (wk : Int), V.ref a)] : List (Key × V)) (Sum.inl (wk : Int)) = some (.ref a) := valV_pos rfl
    refine ⟨_, rfl, _, rfl, _, rfl, iteF ⟨_, rfl, _, rfl, _, _, _, _, rfl, c.self, lk_Container_c_works, _, _, rfl, dget_i hwk, ?_⟩⟩
    rw [vg]
    refine ⟨_, rfl, iteF ⟨_, rfl, _, _, _, _, rfl, c.self, lk_Container_c_works, _, rfl, _, _, rfl, dget_i' hwk vg, a, _, rfl, SqT.of hwa, rfl, _, _, rfl, _, _, rfl, _, _, rfl, rfl, Nat.zero_le _, fun l hl => ?_⟩⟩
    have s1 : Same H (upd H l (.lst [])) := Same.new hl
    have c1 := c.grow s1
    have hL1 : (upd H l (.lst [])) l = some (.lst []) := upd_same
    have tu1 := Same.tups s1
    generalize upd H l (.lst []) = H1 at c1 hL1 tu1 s1 ⊢
    refine ⟨fun σ' H' => σ' = [some (.ref (A.a .self)), some (.int (wk : Nat)), some (.int (r : Nat)), some (.str n), some (.int (kk : Nat)), some (.ref l), none, none, none] ∧ H' = H1, ?_, ?_⟩
    · obtain ⟨dxb, tb, bk⟩ := c1.book
      refine ⟨_, rfl, _, _, _, _, rfl, c1.self, lk_Container_c_book, _, _, _, _, rfl, bk.self, lk_Book_b_works, rfl, _, rfl, ?_⟩
      have hown : g.bk.works ≠ "own" := fun z => by
        rcases c.st.bok with y | y <;> rw [y] at z <;> exact absurd z (by decide)
      rw [decide_eq_false fun z => hown (str_iff.mp z)]
      exact iteF ⟨rfl, rfl⟩
    · rintro σ' H1' ⟨rfl, e⟩
      rw [e]
      have g1 := c.grab s1 hl hL1
      refine ⟨_, rfl, _, _, _, rfl, c1.self, no_Container_let_loose, _, rfl, g, _, A, S, W, some kk, rfl, g1, loose_pre wf is1, Nat.le_trans lu.sz hz1, fun H2 c2 tu2 => ?_⟩
      refine ⟨_, rfl, _, _, _, rfl, c2.self, no_Container_use_thing, _, rfl, _, rfl, _, rfl, by show 1 ≤ sizeLine; rw [sizeLine_eq]; decide, fun t2 ht2 => ?_⟩
      have s3 : Same H2 (upd H2 t2 (.tup [.str n])) := Same.new ht2
      have c3 := c2.grow s3
      refine ⟨g, _, A, _, W, kk, r, t2, [n], t, y, rfl, c3, upd_same, lw, ll.get et, Nat.lt_succ_of_le (c.st.mok.rk5 _), by rw [ll.sc]; exact ey, ha, by show 1 + 6 + 10 ≤ 100; decide, hz1, fun A2 H3 c4 ad4 tu4 => ?_⟩
      have tu4' := tu1.trans (tu2.trans ((Same.tups s3).trans tu4))
      rw [← ad4.self] at q ⊢
      have hL4 : H3 l = some (.lst []) := c4.same _ _ upd_same
      have c4 := c4.drop (Same.new (c.same.free hl)) c.st
      refine ⟨_, rfl, _, rfl, ⟨_, SqL.of hL4⟩, for_list (K := K) (a := l) (xs := []) (fun i σ H' => σ = [some (.ref (A2.a .self)), some (.int (wk : Nat)), some (.int (r : Nat)), some (.str n), some (.int (kk : Nat)), some (.ref l), none, none, none] ∧ H' = H3) ⟨rfl, rfl⟩ (fun i σ H' _ h => by rw [h.2]; exact SqL.of hL4) (fun i x σ H' hi => by simp at hi) ?_⟩
      rintro σ H3' ⟨rfl, e⟩
      rw [e]
      -- the works without this one
      obtain ⟨a2, hA2⟩ : ∃ a, A2.wv = [a] := by
        have z := c4.wks
        rw [hw] at z
        generalize A2.wv = l at z
        cases z with
        | cons h1 h2 => cases h2; exact ⟨_, rfl⟩
      have hdn := c4.works
      rw [show wkDict W.ws A2.wv = [(Sum.inl (wk : Int), .ref a2)] by rw [hw, hA2]; rfl] at hdn
      refine ⟨A2.a .works, _, hdn, True.intro, fun od => ?_⟩
      generalize hd : A2.a .works = d
      rw [hd] at hdn
      have k0 : ∀ b o, b ≠ d → H3 b = some o → upd H3 d (.frz od (.dK [(Sum.inl (wk : Int), .ref a2)])) b = some o := fun b o hb e => by rw [upd_ne hb]; exact e
      have nself : A2.a .self ≠ d := ne_of c4.self hdn (by intro z; cases z)
      refine ⟨_, rfl, _, _, _, _, rfl, k0 _ _ nself c4.self, lk_Container_c_works, d, od, by rw [← hd], .inl ⟨[(Sum.inl (wk : Int), .ref a2)], upd_same, ?_⟩⟩
      intro D hD
      have hDd : D ≠ d := fun z => by rw [z, upd_same] at hD; cases hD
      have hD0 : H3 D = none := by rw [upd_ne hDd] at hD; exact hD
      refine dc_it walk_keys (fun i H' => H' = upd (upd H3 d (.frz od (.dK [(Sum.inl (wk : Int), .ref a2)]))) D (.dK [])) rfl (fun i H' _ h => by rw [h, upd_ne (Ne.symm hDd), upd_same]) ?_ ?_
      · rintro i x H' H'' hi h0 ⟨e2, k', v', hk', rfl⟩
        have hi0 : i = 0 := by simp at hi; omega
        subst hi0
        simp at hk'
        obtain ⟨rfl, rfl⟩ := hk'
        refine ⟨rfl, _, rfl, _, rfl, rfl, _, rfl, ?_⟩
        rw [decide_eq_true (show kV (Sum.inl (wk : Int)) = V.int (wk : Nat) from rfl)]
        exact iteF (e2.trans h0)
      · rintro H' rfl
        refine ⟨by rw [upd_ne (Ne.symm hDd), upd_same], ?_⟩
        have s5 : Same H3 (upd (upd (upd H3 d (.frz od (.dK [(Sum.inl (wk : Int), .ref a2)]))) D (.dK [])) d (.dK [(Sum.inl (wk : Int), .ref a2)])) := fun b o e => by
          by_cases hb : b = d
          · subst hb
            rw [upd_same, ← e, hdn]
          · rw [upd_ne hb, upd_ne (ne_of_none e hD0), upd_ne hb]
            exact e
        have hD5 : (upd (upd (upd H3 d (.frz od (.dK [(Sum.inl (wk : Int), .ref a2)]))) D (.dK [])) d (.dK [(Sum.inl (wk : Int), .ref a2)])) D = some (.dK []) := by rw [upd_ne hDd, upd_same]
        generalize upd (upd (upd H3 d (.frz od (.dK [(Sum.inl (wk : Int), .ref a2)]))) D (.dK [])) d (.dK [(Sum.inl (wk : Int), .ref a2)]) = H5 at s5 hD5 ⊢
        have c5 := c4.grow s5
        refine ⟨_, rfl, _, _, _, rfl, c5.self, len_Container, ?_⟩
        have c6 := c5.wNewWorks hD5 (c4.same.free hD0) (c4.neNew hD0)
        have epf : putF "c_works" (.ref D) (selfFs g A2 W.po) = selfFs g { A2 with a := setA A2.a .works D, wv := [] } W.po := pf_Container_c_works
        have tu6 := tu4'.trans ((Same.tups s5).trans (c5.tups (o2 := .ins (CContainer K) (A2.d .self) (selfFs g { A2 with a := setA A2.a .works D, wv := [] } W.po)) .self rfl True.intro))
        rw [epf]
        generalize upd H5 (A2.a .self) (.ins (CContainer K) (A2.d .self) (selfFs g { A2 with a := setA A2.a .works D, wv := [] } W.po)) = H6 at c6 tu6 ⊢
        have ea : ({ A2 with a := setA A2.a .works D, wv := [] } : Ad).a .self = A2.a .self := rfl
        generalize ({ A2 with a := setA A2.a .works D, wv := [] } : Ad) = A3 at c6 ea
        rw [← ea] at q ⊢
        exact ⟨_, rfl, _, _, _, rfl, c6.self, no_Container_finish, g, H0, A3, _, _, rfl, c6, hp', by rw [lu.sc, ll.sc]; omega, hz2, fun H' A' c' ea' tu' => ⟨_, rfl, q H' A' c' ea' (tu6.trans tu')⟩⟩
end
end K94
set_option maxHeartbeats 4000000
/-! deeds as tuples; answer, do; what is shown -/
namespace K94
open PySem PySem.Spec PyProof.Rows L2 StX
def Deed.word : Deed → Str
  | .begin _ => "begin" | .close _ => "close" | .ask _ _ => "ask" | .use _ _ => "use" | .later _ _ => "later" | .run _ => "run"
def Deed.args : Deed → List V
  | .begin s => [.int (s : Nat)] | .close s => [.int (s : Nat)] | .ask r n => [.int (r : Nat), .str n] | .use r n => [.int (r : Nat), .str n] | .later r n => [.int (r : Nat), .str n] | .run k => [.int (k : Nat)]
def Deed.vs (d : Deed) : List V := .str d.word :: d.args
def DeedAt (H : Hp) (a : Addr) (d : Deed) : Prop := H a = some (.tup d.vs)
def sizesL : List (Str × Int) := [("begin", 2), ("close", 2), ("ask", 3), ("use", 3), ("later", 3), ("run", 2)]
structure SzD (K : PySem.W.Frag) (w : World) : Prop where
  d : ∃ es n, KDict K w (RSIZES K) es n
  v : ∀ q ∈ sizesL, ∃ u, PySem.W.nsIn K (RSIZES K) q.1 = some (some u) ∧ RelV (.int q.2) u
theorem Deed.sz_mem (d : Deed) : (d.word, (d.vs.length : Int)) ∈ sizesL := match d with
  | .begin _ => .head _ | .close _ => .tail _ (.head _) | .ask _ _ => .tail _ (.tail _ (.head _)) | .use _ _ => .tail _ (.tail _ (.tail _ (.head _))) | .later _ _ => .tail _ (.tail _ (.tail _ (.tail _ (.head _)))) | .run _ => .tail _ (.tail _ (.tail _ (.tail _ (.tail _ (.head _)))))
theorem Deed.at0 (d : Deed) : atI d.vs 0 = some (.str d.word) := by cases d <;> rfl
section
variable {P : Program} {w : World} {K : PySem.W.Frag} {mg : Str → Option Value} {base : Heap} {f : Addr} {fd : FuncData}
def spIsDeed : Sp := fun vs H Q _ => ∃ a d, vs = [.ref a] ∧ DeedAt H a d ∧ Q (.bl true) H
theorem ok_is_deed (F : FnP K "is_deed" "is_deed" s_is_deed f fd) (T : Txt K mg) (Z : SzD K w) : FnOk P w K mg base CX0 1 f fd P_is_deed spIsDeed := by
  refine okD F sc_is_deed (fun vs H Q E h => ?_) (fun cdv A outer s H vs Q E hr h => ?_)
  · obtain ⟨_, _, rfl, _⟩ := h; rfl
  · obtain ⟨a, d, rfl, hd, q⟩ := h
    obtain ⟨es, n, D⟩ := Z.d
    refine ⟨_, pss_cons (ps_if (PW.pt (pw_or (pt_not (pt_val (pe_callB call_isC (by rfl) T.f_isinstance (by decide +kernel) (pa_cons (pv 0) (pa_cons (pe_bltn (v := .ty "tuple") rfl T.f_tuple boot_tuple rfl) pa_nil))))) (pw_or (pt_cmpR op_eq (pe_callB call_len_seq (by rfl) T.f_len (by decide +kernel) (pa_cons (pv 0) pa_nil)) (pe_int) (nomark _)) (pw_or1 (pt_not (pt_val (pe_callB call_isC (by rfl) T.f_isinstance (by decide +kernel) (pa_cons (pe_ix ix_tup (pv 0) (pe_int) (fun _ _ => rfl)) (pa_cons (pe_bltn (v := .ty "str") rfl T.f_str boot_str rfl) pa_nil)))))))))
      (pss_one (ps_ret (pe_bl)))
      (pss_nil))
    (pss_one (ps_ret (pe_and (pe_cmpR (op_in_kd D) (pe_ix ix_tup (pv 0) (pe_int) (fun _ _ => rfl)) (pe_gr T.r_SIZES) rfl) (pe_one (pe_cmpR op_eq (pe_callB call_len_seq (by rfl) T.f_len (by decide +kernel) (pa_cons (pv 0) pa_nil)) (pe_ix ix_kdict (pe_gr T.r_SIZES) (pe_ix ix_tup (pv 0) (pe_int) (fun _ _ => rfl)) (fun _ _ => rfl)) (nomark _)))))), ?_⟩
    have hd : H a = some (.tup d.vs) := hd
    have e0 : atI d.vs 0 = some (.str d.word) := d.at0
    obtain ⟨u, hu, ru⟩ := Z.v _ d.sz_mem
    refine ⟨_, rfl, _, _, _, rfl, isC_tup hd, _, rfl, iteF ?_⟩
    have hne : decide (V.int (d.vs.length : Nat) = V.int 0) = false := decide_eq_false fun z => by have := int_iff.mp z; unfold Deed.vs at this; rw [List.length_cons] at this; omega
    refine ⟨_, rfl, a, d.vs, rfl, .inr (SqT.of hd), rfl, _, rfl, ?_⟩
    rw [hne]
    refine iteF ⟨_, rfl, a, d.vs, 0, _, rfl, rfl, SqT.of hd, e0, _, _, _, rfl, isC_str, _, rfl, iteF ?_⟩
    refine ⟨_, rfl, a, d.vs, 0, _, rfl, rfl, SqT.of hd, e0, _, _, rfl, rfl, hu, ?_⟩
    refine ⟨_, rfl, iteT ⟨_, rfl, a, d.vs, rfl, .inr (SqT.of hd), _, rfl, a, d.vs, 0, _, rfl, rfl, SqT.of hd, e0, _, _, _, rfl, rfl, ⟨es, n, u, D.at_, D.lit, hu, ru⟩, rfl, ?_⟩⟩
    rw [decide_eq_true (show V.int (d.vs.length : Nat) = V.int ((d.word, (d.vs.length : Int)).2) from rfl)]
    exact q

def spAnswer (K : PySem.W.Frag) : Sp := fun vs H Q _ => ∃ g H0 A S W a d, vs = [.ref (A.a .self), .ref a] ∧ DeedAt H a d ∧ DPre K g H0 H A S W d ∧ DPost K g H0 H A S W d Q
def spDo (K : PySem.W.Frag) : Sp := fun vs H Q _ => ∃ g H0 A S W a d, vs = [.ref (A.a .self), .ref a] ∧ DeedAt H a d ∧ DPre K g H0 H A S W d ∧ DPost K g H0 H A S W d (fun _ H' => Q .non H')
theorem strF {a b : Str} (h : a ≠ b) : decide (V.str a = V.str b) = false := decide_eq_false fun z => h (str_iff.mp z)
theorem strT {a : Str} : decide (V.str a = V.str a) = true := decide_eq_true rfl
theorem ok_answer {k : Nat} (hk : 10 ≤ k) (F : FnP K "answer" "Container.answer" s_Container_answer f fd) (T : Txt K mg) (m_Container_begin : GM P w K mg base k (CContainer K) "begin" P_Container_begin (spBegin K)) (m_Container_close : GM P w K mg base k (CContainer K) "close" P_Container_close (spClose K))
    (m_Container_ask : GM P w K mg base k (CContainer K) "ask" P_Container_ask (spAsk K)) (m_Container_use : GM P w K mg base k (CContainer K) "use" P_Container_use (spUseD K)) (m_Container_later : GM P w K mg base k (CContainer K) "later" P_Container_later (spLater K)) (m_Container_run : GM P w K mg base k (CContainer K) "run" P_Container_run (spRun K)) :
    FnOk P w K mg base CX0 (k + 1) f fd P_Container_answer (spAnswer K) := by
  refine okD F sc_Container_answer (fun vs H Q E h => ?_) (fun cdv A outer s H vs Q E hr h => ?_)
  · obtain ⟨_, _, _, _, _, _, _, rfl, _⟩ := h; rfl
  · obtain ⟨g, H0, A, S, W, a, d, rfl, hd, hp, q⟩ := h
    refine ⟨_, pss_cons (ps_if (pt_cmpR op_eq (pe_ix ix_tup (pv 1) (pe_int) (fun _ _ => rfl)) (pe_str) (nomark _))
      (pss_one (ps_ret (pe_m m_Container_begin hr (pv 0) (pa_cons (pe_ix ix_tup (pv 1) (pe_int) (fun _ _ => rfl)) pa_nil))))
      (pss_nil))
    (pss_cons (ps_if (pt_cmpR op_eq (pe_ix ix_tup (pv 1) (pe_int) (fun _ _ => rfl)) (pe_str) (nomark _))
      (pss_one (ps_ret (pe_m m_Container_close hr (pv 0) (pa_cons (pe_ix ix_tup (pv 1) (pe_int) (fun _ _ => rfl)) pa_nil))))
      (pss_nil))
    (pss_cons (ps_if (pt_cmpR op_eq (pe_ix ix_tup (pv 1) (pe_int) (fun _ _ => rfl)) (pe_str) (nomark _))
      (pss_one (ps_ret (pe_m m_Container_ask hr (pv 0) (pa_cons (pe_ix ix_tup (pv 1) (pe_int) (fun _ _ => rfl)) (pa_cons (pe_ix ix_tup (pv 1) (pe_int) (fun _ _ => rfl)) pa_nil)))))
      (pss_nil))
    (pss_cons (ps_if (pt_cmpR op_eq (pe_ix ix_tup (pv 1) (pe_int) (fun _ _ => rfl)) (pe_str) (nomark _))
      (pss_one (ps_ret (pe_m m_Container_use hr (pv 0) (pa_cons (pe_ix ix_tup (pv 1) (pe_int) (fun _ _ => rfl)) (pa_cons (pe_ix ix_tup (pv 1) (pe_int) (fun _ _ => rfl)) pa_nil)))))
      (pss_nil))
    (pss_one (ps_ret (pe_ifExp (pt_cmpR op_eq (pe_ix ix_tup (pv 1) (pe_int) (fun _ _ => rfl)) (pe_str) (nomark _)) (pe_m m_Container_later hr (pv 0) (pa_cons (pe_ix ix_tup (pv 1) (pe_int) (fun _ _ => rfl)) (pa_cons (pe_ix ix_tup (pv 1) (pe_int) (fun _ _ => rfl)) pa_nil))) (pe_m m_Container_run hr (pv 0) (pa_cons (pe_ix ix_tup (pv 1) (pe_int) (fun _ _ => rfl)) pa_nil)))))))), ?_⟩
    have hd : H a = some (.tup d.vs) := hd
    have st := SqT.of (K := K) hd
    have c := hp.1
    refine ⟨_, rfl, a, d.vs, 0, _, rfl, rfl, st, d.at0, rfl, _, rfl, ?_⟩
    cases d with
    | begin sc =>
      refine iteT ⟨_, rfl, _, _, _, rfl, c.self, no_Container_begin, _, rfl, a, _, 1, _, rfl, rfl, st, rfl, sc, g, H0, A, S, W, rfl, hp, q⟩
    | close sc =>
      refine iteF ⟨_, rfl, a, _, 0, _, rfl, rfl, st, rfl, rfl, _, rfl, iteT ⟨_, rfl, _, _, _, rfl, c.self, no_Container_close, _, rfl, a, _, 1, _, rfl, rfl, st, rfl, sc, g, H0, A, S, W, rfl, hp, q⟩⟩
    | ask r n =>
      refine iteF ⟨_, rfl, a, _, 0, _, rfl, rfl, st, rfl, rfl, _, rfl, iteF ⟨_, rfl, a, _, 0, _, rfl, rfl, st, rfl, rfl, _, rfl, iteT ⟨_, rfl, _, _, _, rfl, c.self, no_Container_ask, _, rfl, a, _, 1, _, rfl, rfl, st, rfl, _, rfl, a, _, 2, _, rfl, rfl, st, rfl, r, n, g, H0, A, S, W, rfl, hp, q⟩⟩⟩
    | use r n =>
      refine iteF ⟨_, rfl, a, _, 0, _, rfl, rfl, st, rfl, rfl, _, rfl, iteF ⟨_, rfl, a, _, 0, _, rfl, rfl, st, rfl, rfl, _, rfl, iteF ⟨_, rfl, a, _, 0, _, rfl, rfl, st, rfl, rfl, _, rfl, iteT ⟨_, rfl, _, _, _, rfl, c.self, no_Container_use, _, rfl, a, _, 1, _, rfl, rfl, st, rfl, _, rfl, a, _, 2, _, rfl, rfl, st, rfl, r, n, g, H0, A, S, W, rfl, hp, q⟩⟩⟩⟩
    | later r n =>
      refine iteF ⟨_, rfl, a, _, 0, _, rfl, rfl, st, rfl, rfl, _, rfl, iteF ⟨_, rfl, a, _, 0, _, rfl, rfl, st, rfl, rfl, _, rfl, iteF ⟨_, rfl, a, _, 0, _, rfl, rfl, st, rfl, rfl, _, rfl, iteF ⟨_, rfl, a, _, 0, _, rfl, rfl, st, rfl, rfl, _, rfl, iteT ⟨_, rfl, _, _, _, rfl, c.self, no_Container_later, _, rfl, a, _, 1, _, rfl, rfl, st, rfl, _, rfl, a, _, 2, _, rfl, rfl, st, rfl, r, n, g, H0, A, S, W, rfl, hp, q⟩⟩⟩⟩⟩
    | run wk =>
      refine iteF ⟨_, rfl, a, _, 0, _, rfl, rfl, st, rfl, rfl, _, rfl, iteF ⟨_, rfl, a, _, 0, _, rfl, rfl, st, rfl, rfl, _, rfl, iteF ⟨_, rfl, a, _, 0, _, rfl, rfl, st, rfl, rfl, _, rfl, iteF ⟨_, rfl, a, _, 0, _, rfl, rfl, st, rfl, rfl, _, rfl, iteF ⟨_, rfl, _, _, _, rfl, c.self, no_Container_run, _, rfl, a, _, 1, _, rfl, rfl, st, rfl, wk, g, H0, A, S, W, rfl, hp, q⟩⟩⟩⟩⟩
theorem ok_do {k : Nat} (hk : 10 ≤ k) (F : FnP K "do" "Container.do" s_Container_do f fd) (T : Txt K mg) (g_is_deed : GF P w K mg base 1 "is_deed" P_is_deed spIsDeed) (m_Container_answer : GM P w K mg base k (CContainer K) "answer" P_Container_answer (spAnswer K)) :
    FnOk P w K mg base CX0 (k + 1) f fd P_Container_do (spDo K) := by
  refine okD F sc_Container_do (fun vs H Q E h => ?_) (fun cdv A outer s H vs Q E hr h => ?_)
  · obtain ⟨_, _, _, _, _, _, _, rfl, _⟩ := h; rfl
  · obtain ⟨g, H0, A, S, W, a, d, rfl, hd, hp, q⟩ := h
    refine ⟨_, pss_cons (ps_if (pt_not (pt_val (pe_g g_is_deed (hr.mono (by omega)) (pa_cons (pv 1) pa_nil))))
      (pss_never)
      (pss_nil))
    (pss_one (ps_expr (pe_m m_Container_answer hr (pv 0) (pa_cons (pv 1) pa_nil)))), ?_⟩
    exact ⟨_, rfl, a, d, rfl, hd, _, rfl, iteF ⟨_, rfl, _, _, _, rfl, hp.1.self, no_Container_answer, _, rfl, g, H0, A, S, W, a, d, rfl, hd, hp, q⟩⟩
end
end K94
set_option maxHeartbeats 4000000
/-! what a container shows -/
namespace K94
open PySem PySem.Spec PyProof.Rows L2 StX
def ThAt (H : Hp) (v : V) (t : Thg) : Prop := ∃ a b, v = .ref a ∧ H a = some (.tup [.str t.name, .int (t.home : Nat), .bl t.ended, .ref b]) ∧ H b = some (.tup (t.got.map oV))
theorem ThAt.mono {H H' : Hp} (s : Same H H') {v : V} {t : Thg} (h : ThAt H v t) : ThAt H' v t := by
  obtain ⟨a, b, e, h1, h2⟩ := h
  exact ⟨a, b, e, s _ _ h1, s _ _ h2⟩
section
variable {P : Program} {w : World} {K : PySem.W.Frag} {mg : Str → Option Value} {base : Heap} {f : Addr} {fd : FuncData}
def spFaults (K : PySem.W.Frag) : Sp := fun vs H Q _ => ∃ g H0 A S W, vs = [.ref (A.a .self)] ∧ Ctr K g H0 H A S W ∧ ∀ L, H L = none → Q (.ref L) (upd H L (.lst A.fv))
theorem ok_faults (F : FnP K "faults" "Container.faults" s_Container_faults f fd) (T : Txt K mg) : FnOk P w K mg base CX0 1 f fd P_Container_faults (spFaults K) := by
  refine okD F sc_Container_faults (fun vs H Q E h => ?_) (fun cdv A outer s H vs Q E hr h => ?_)
  · obtain ⟨_, _, _, _, _, rfl, _⟩ := h; rfl
  · obtain ⟨g, H0, A, S, W, rfl, c, q⟩ := h
    refine ⟨_, pss_one (ps_ret (pe_callTy call_list_of (by rfl) T.f_list (by decide +kernel) (pa_cons (pe_f (pv 0) T.c_Container T.n_Container_c_faults) pa_nil))), ?_⟩
    exact ⟨_, rfl, _, _, _, _, rfl, c.self, lk_Container_c_faults, _, _, rfl, .inl (SqL.of c.faults), q⟩
def spThings (K : PySem.W.Frag) : Sp := fun vs H Q _ => ∃ g H0 A S W, vs = [.ref (A.a .self)] ∧ Ctr K g H0 H A S W ∧ WF g S ∧ sz S ≤ BIG ∧ ∀ L H' us, Same H H' → H L = none → H' L = some (.lst us) → Paired (ThAt H') us S.things → Q (.ref L) H'
theorem ok_things (F : FnP K "things" "Container.things" s_Container_things f fd) (T : Txt K mg) : FnOk P w K mg base CX0 1 f fd P_Container_things (spThings K) := by
  refine okD F sc_Container_things (fun vs H Q E h => ?_) (fun cdv A outer s H vs Q E hr h => ?_)
  · obtain ⟨_, _, _, _, _, rfl, _⟩ := h; rfl
  · obtain ⟨g, H0, A, S, W, rfl, c, wf, hz, q⟩ := h
    have nd := sc_Container_things.nd
    refine ⟨_, pss_one (ps_ret (pe_lc (own := [("one", 1)]) (g := gName 1) rfl nd (pi_list (pe_f (pv 0) T.c_Container T.n_Container_c_things)) (blkOk_by (N := N_Container_things) (sc := defScope s_Container_things) (own := [("one", 1)]) (by decide +kernel)) (fun _ _ _ _ _ => pg_name (i := 1) nd rfl (Or.inl rfl)) (fun _ _ _ _ _ => pts_nil) (fun _ _ _ _ _ => pe_tup (pa_cons (pe_f (pv 1) T.c_Thing T.n_Thing_name) (pa_cons (pe_f (pv 1) T.c_Thing T.n_Thing_home) (pa_cons (pe_f (pv 1) T.c_Thing T.n_Thing_ended) (pa_cons (pe_callTy (r := fun xs H Q => ∃ p ys, xs = [.ref p] ∧ ((SqL K H p ys ∧ ∀ l, H l = none → Q (.ref l) (upd H l (.tup ys))) ∨ (SqT K H p ys ∧ Q (.ref p) H))) call_tuple_of (by rfl) T.f_tuple (by decide +kernel) (pa_cons (pe_f (pv 1) T.c_Thing T.n_Thing_got) pa_nil)) pa_nil))))))), ?_⟩
    have hT : S.things.length ≤ BIG := Nat.le_trans (by unfold sz; omega) hz
    refine ⟨_, rfl, _, _, _, _, rfl, c.self, lk_Container_c_things, _, rfl, ⟨_, SqL.of c.things⟩, fun L hL => ?_⟩
    refine lc_it (walk_list (K := K) (a := A.a .things) (xs := thRefs A S.things.length)) (fun i H' => ∃ us, Same H H' ∧ H' L = some (.lst us) ∧ Paired (ThAt H') us (S.things.take i)) ⟨[], Same.new hL, upd_same, .nil⟩ (fun i H' _ h => SqL.of (c.grow h.choose_spec.1).things) ?_ ?_
    · rintro i x H' H'' hi ⟨us, h1, h2, h3⟩ ⟨rfl, hx⟩
      rw [thRefs_len] at hi
      rw [thRefs_get hi] at hx
      cases hx
      have c1 := c.grow h1
      have et := List.getElem?_eq_getElem hi
      have htk : S.things.take (i + 1) = S.things.take i ++ [S.things[i]] := by rw [List.take_add_one, et]; rfl
      rw [htk]
      generalize S.things[i] = t at et
      have hul : us.length = i := by rw [Paired.length h3, List.length_take]; omega
      refine ⟨rfl, _, rfl, _, _, _, _, rfl, c1.thing et, lk_Thing_name, _, rfl, _, _, _, _, rfl, c1.thing et, lk_Thing_home, _, rfl, _, _, _, _, rfl, c1.thing et, lk_Thing_ended, _, rfl, _, _, _, _, rfl, c1.thing et, lk_Thing_got, _, _, rfl, .inl ⟨SqL.of (c1.got et), fun b hb => ?_⟩⟩
      refine ⟨by show 4 ≤ sizeLine; rw [sizeLine_eq]; decide, fun a ha => ?_⟩
      have s1 : Same H'' (upd H'' b (.tup (t.got.map oV))) := Same.new hb
      have s2 : Same (upd H'' b (.tup (t.got.map oV))) (upd (upd H'' b (.tup (t.got.map oV))) a (.tup [.str t.name, .int (t.home : Nat), .bl t.ended, .ref b])) := Same.new ha
      have s12 := s1.trans s2
      have th : ThAt (upd (upd H'' b (.tup (t.got.map oV))) a (.tup [.str t.name, .int (t.home : Nat), .bl t.ended, .ref b])) (.ref a) t := ⟨a, b, rfl, upd_same, s2 _ _ upd_same⟩
      have hL2 := s12 _ _ h2
      refine ⟨us, hL2, by rw [hul]; exact sline (by omega), us ++ [.ref a], fun b' o e => ?_, upd_same, ?_⟩
      · rw [upd_ne (ne_of_none e hL)]
        exact s12 _ _ (h1 b' o e)
      · have keep : ∀ v t', ThAt (upd (upd H'' b (.tup (t.got.map oV))) a (.tup [.str t.name, .int (t.home : Nat), .bl t.ended, .ref b])) v t' → ThAt (upd (upd (upd H'' b (.tup (t.got.map oV))) a (.tup [.str t.name, .int (t.home : Nat), .bl t.ended, .ref b])) L (.lst (us ++ [.ref a]))) v t' := by
          rintro v t' ⟨a', b', e, q1, q2⟩
          exact ⟨a', b', e, by rw [upd_ne (ne_of q1 hL2 (by intro z; cases z))]; exact q1, by rw [upd_ne (ne_of q2 hL2 (by intro z; cases z))]; exact q2⟩
        exact Paired.snoc (keep _ _ th) (Paired.mono (fun v t' h => keep v t' (h.mono s12)) h3)
    · rintro H' ⟨us, h1, h2, h3⟩
      rw [thRefs_len, List.take_length] at h3
      exact q L H' us h1 hL h2 h3
def spWaiting (K : PySem.W.Frag) : Sp := fun vs H Q _ => ∃ g H0 A S W, vs = [.ref (A.a .self)] ∧ Ctr K g H0 H A S W ∧ W.ws = [] ∧ ∀ L H', Same H H' → H L = none → H' L = some (.dK []) → Q (.ref L) H'
theorem ok_waiting (F : FnP K "waiting" "Container.waiting" s_Container_waiting f fd) (T : Txt K mg) : FnOk P w K mg base CX0 1 f fd P_Container_waiting (spWaiting K) := by
  refine okD F sc_Container_waiting (fun vs H Q E h => ?_) (fun cdv A outer s H vs Q E hr h => ?_)
  · obtain ⟨_, _, _, _, _, rfl, _⟩ := h; rfl
  · obtain ⟨g, H0, A, S, W, rfl, c, hw, q⟩ := h
    have nd := sc_Container_waiting.nd
    refine ⟨_, pss_one (ps_ret (pe_dc (own := [("work", 1)]) (g := gName 1) rfl nd (pi_list (pe_callB (call_sortedD rfl) (by rfl) T.f_sorted (by decide +kernel) (pa_cons (pe_f (pv 0) T.c_Container T.n_Container_c_works) pa_nil))) (blkOk_by (N := N_Container_waiting) (sc := defScope s_Container_waiting) (own := [("work", 1)]) (by decide +kernel)) (fun _ _ _ _ _ => pg_name (i := 1) nd rfl (Or.inl rfl)) (fun _ _ _ _ _ => pts_nil) (fun _ _ _ _ _ => pv 1) (fun _ _ _ _ _ => pe_dget (hu_of hr) (pe_f (pv 0) T.c_Container T.n_Container_c_works) (pv 1) (fun _ _ => rfl)))), ?_⟩
    have hwk := c.works
    rw [wk_nil hw] at hwk
    refine ⟨_, rfl, _, _, _, _, rfl, c.self, lk_Container_c_works, _, [], [], rfl, .inl hwk, rfl, by decide, fun ys p hp _ hn => ?_⟩
    have e : ys = [] := List.Perm.eq_nil hp
    subst e
    have s1 : Same H (upd H p (.lst [])) := Same.new hn
    refine ⟨p, rfl, ⟨[], SqL.of upd_same⟩, fun D hD => ?_⟩
    have s2 : Same (upd H p (.lst [])) (upd (upd H p (.lst [])) D (.dK [])) := Same.new hD
    refine dc_it (walk_list (K := K) (a := p) (xs := [])) (fun i H' => H' = upd (upd H p (.lst [])) D (.dK [])) rfl (fun i H' _ h => by rw [h]; exact SqL.of (s2 _ _ upd_same)) (fun i x H' H'' hi => absurd hi (Nat.not_lt_zero _)) ?_
    rintro H' rfl
    exact q D _ (s1.trans s2) (s1.free hD) upd_same
end
end K94
set_option maxHeartbeats 4000000
/-! tuple(d): the keys of a dict -/
namespace K94
open PySem PySem.Spec PyProof.Rows L2 StX
section
variable {prog : Program} {w : World} {A : Around} {E : Value → Shared → Prop} {s : Shared} {T : String} {r d : Addr} {n : Nat} {P : Nat → Value → Prop} {OK : Heap → Prop}
theorem collect_kdl {Q : List Value → Shared → Prop} (K : PySem.W.KdlSrc prog w T r d n P OK) (hh : A.handled = none) (hok : OK s.heap) (hn : n ≤ sizeLine)
    (hQ : ∀ (h' : Heap) (tk : Nat) (acc : Array Value), (∀ b o, s.heap.get? b = some o → h'.get? b = some o) → ItemsOf P acc n → Q acc.toList { s with heap := h', toks := tk }) :
    wpAny (model prog w) A (collect (.ref r)) Q E s := by
  unfold collect
  refine wpAny_bind (wpAny_runValue (codeAny_builtin PySem.F.entry_proto_collect ?_))
  rw [Around.under_plainId PySem.F.plain_proto_collect _]
  show wpAny _ A.in1 (newList [] >>= fun l => again (.builtin "list.__iadd__" ⟨[l, .ref r], []⟩)) _ _ s
  refine wpAny_bind (wpAny_newObj_type ?_)
  refine wpAny_pure ⟨plainId_quiet PySem.F.plain_list_iadd _, codeAny_builtin PySem.F.entry_list_iadd ?_⟩
  rw [Around.under_plainId PySem.F.plain_list_iadd _]
  show wpAny _ A.in1 (Builtin.List.listExtendWith (.ref s.heap.objs.size) (.ref r) (.ref s.heap.objs.size)) _ _ _
  have hS : (s.heap.push { cls := .type "list", data := .seq ([] : List Value).toArray }).get? s.heap.objs.size = some { cls := .type "list", data := .seq #[] 0 } := Heap.get?_push_size _ rfl
  have hlt := K.there _ hok
  refine wpAny_mono (PySem.W.kdl_extend (A := A) (R := fun rr s' => rr = .ok (.ret (.ref s.heap.objs.size)) ∧ ∃ (h' : Heap) (tk : Nat) (acc : Array Value) (c' : Nat), s' = { s with heap := h', toks := tk } ∧
      (∀ b o, s.heap.get? b = some o → h'.get? b = some o) ∧ h'.get? s.heap.objs.size = some { cls := .type "list", dict := none, data := .seq acc c', slots := #[] } ∧ ItemsOf P acc n)
    (s := { s with heap := s.heap.push { cls := .type "list", data := .seq ([] : List Value).toArray } }) K hh (K.keep _ _ hok fun b _ o e => Heap.get?_push_of_some _ e) s.heap.objs.size (Nat.ne_of_gt hlt.1) (Nat.ne_of_gt hlt.2) _ 0 hS
    (fun h' tk acc c' hk e hi => ⟨rfl, h', tk, acc, c', rfl, fun b o q => hk b o (Nat.ne_of_lt (Heap.lt_size q)) (Heap.get?_push_of_some _ q), e, hi⟩) hn) (fun fin s' h => ?_) (fun e s' h => ?_)
  · cases fin with
    | done f =>
      obtain ⟨e, h', tk, acc, c', rfl, hk, hS', hi⟩ := h
      cases e
      show wpAny _ A (load s.heap.objs.size >>= _) _ _ _
      exact wpAny_bind (wpAny_load hS' (wpAny_pure (hQ h' tk acc hk hi)))
    | again c' =>
      refine ⟨h.1, codeAny_mono h.2 fun rr s'' hr' => ?_⟩
      obtain ⟨rfl, h', tk, acc, c', rfl, hk, hS', hi⟩ := hr'
      show wpAny _ A (load s.heap.objs.size >>= _) _ _ _
      exact wpAny_bind (wpAny_load hS' (wpAny_pure (hQ h' tk acc hk hi)))
  · exact absurd h.1 (by simp)
theorem code_tuple_new_kdl {Q₁ : Value → Shared → Prop} (K : PySem.W.KdlSrc prog w T r d n P OK) (hh : A.handled = none) (hok : OK s.heap) (hn : n ≤ sizeLine)
    (h : ∀ (h' : Heap) (tk : Nat) (acc : Array Value), (∀ b o, s.heap.get? b = some o → h'.get? b = some o) → ItemsOf P acc n →
      Q₁ (.ref h'.objs.size) { s with heap := h'.push { cls := .type "tuple", data := .seq acc }, toks := tk }) :
    codeAny (model prog w) A (.call (.builtin "tuple.__new__") ⟨[.type "tuple", .ref r], []⟩) (wants Q₁ E) s := by
  refine codeAny_of_tree ?_
  show wpAny _ A.in1 (do checkBuiltinCall "tuple.__new__" ⟨[.type "tuple", .ref r], []⟩; again (.builtin "tuple.__new__" ⟨[.type "tuple", .ref r], []⟩)) _ _ s
  refine wpAny_bind (wpAny_of_eq (PySem.F.newCall_tuple_1 _) (wpAny_pure ⟨plainId_quiet PySem.F.plain_tuple_new _, codeAny_builtin PySem.F.entry_tuple_new ?_⟩))
  rw [Around.under_plainId PySem.F.plain_tuple_new _]
  have hsub := sub_tuple_self
  have hinit := init_tuple_lookup
  have hmh := madeHere_tuple
  have hTI : s.TypeIs (.ref r) T := K.type s hok
  have hh1 : A.in1.handled = none := hh
  have hnt := K.notTuple
  wp_walk using wpAny_typeOf hTI, collect_kdl (A := A.in1) K hh1 hok hn
  intro h' tk acc hk hacc
  show wpAny _ _ (Builtin.Tuple.tupleExact acc.toList.toArray >>= fun v => ret v) _ _ _
  unfold Builtin.Tuple.tupleExact
  refine wpAny_bind (wpAny_newObj_type ?_ (by show acc.toList.toArray.size ≤ sizeLine; simp only [Array.toArray_toList]; rw [hacc.1]; exact hn))
  refine wpAny_pure ?_
  have e : acc.toList.toArray = acc := by simp
  rw [e]
  exact h h' tk acc hk hacc
theorem call_tuple_kdl {Q : Value → Shared → Prop} (K : PySem.W.KdlSrc prog w T r d n P OK) (hh : A.handled = none) (hok : OK s.heap) (hn : n ≤ sizeLine)
    (hQ : ∀ (h' : Heap) (tk : Nat) (acc : Array Value), (∀ b o, s.heap.get? b = some o → h'.get? b = some o) → ItemsOf P acc n →
      Q (.ref h'.objs.size) { s with heap := h'.push { cls := .type "tuple", data := .seq acc }, toks := tk }) :
    wpAny (model prog w) A (call (.type "tuple") [.ref r]) Q E s := by
  refine callType_codes (Q₁ := fun obj s₁ => s₁.TypeIs obj "tuple" ∧ Q obj s₁) PySem.F.called_tuple (PySem.F.typeCall_tuple_1 _) PySem.F.entry_object_init
    (code_tuple_new_kdl (A := A.in1) K hh hok hn fun h' tk acc hk hacc => ⟨⟨_, Heap.get?_push_size _ rfl, rfl⟩, hQ h' tk acc hk hacc⟩) fun obj s₁ h₁ => ?_
  exact ⟨h₁.1, PySem.F.args_object_init_2 obj _, object_init_meets PySem.F.called_tuple.init.lookup PySem.F.called_tuple.made (by decide) prog w A.in1 _ s₁ ⟨h₁.1, rfl, h₁.2⟩⟩
end
theorem call_tuple_dK {X : Cx} (hc : X.calm = true) : CallR X (.type "tuple") (fun xs H Q => ∃ (p : Addr) (kvs : List (Key × V)), xs = [V.ref p] ∧ H p = some (.dK kvs) ∧ ∀ q, H q = none → Q (.ref q) (upd H q (.tup (kvs.map fun kv => kV kv.1)))) := by
  intro pins s σ H xs us Q I r h
  obtain ⟨p, kvs, ex, hd, q⟩ := h
  subst ex
  obtain ⟨u, eu, rx⟩ := vals1 r
  subst eu
  cases rx
  obtain ⟨z, lo, vs, rel, dd⟩ := dk_of I.hok hd
  obtain ⟨ep, hat⟩ := dd.dictAt
  have ek : (kvs.map fun kv => kV kv.1) = vs.map fun p => kV p.1 := by
    have e := congrArg (List.map kV) rel.keys
    rw [List.map_map, List.map_map] at e
    exact e
  refine call_tuple_kdl (PySem.W.kdl_dict (knd := mixKind X.prog X.w) (kvs := vs) (ep := ep) lo) (I.ok.hd hc) hat (by rw [← rel.length]; exact z) fun h' tk acc hk hacc => ?_
  have hv : Vals (vs.map fun p => kV p.1) acc.toList := keys_at (by rw [Array.length_toList]; exact hacc.1) fun j v e => hacc.2 j v (by rw [← Array.getElem?_toList]; exact e)
  have I1 : Inv X pins σ H { s with heap := h', toks := tk } := I.kept (t' := tk) hk
  have hT : (h'.push { cls := .type "tuple", data := .seq acc }).get? h'.objs.size = some { cls := .type "tuple", data := .seq acc } := Heap.get?_push_size _ rfl
  exact ⟨.ref h'.objs.size, upd H h'.objs.size (.tup (kvs.map fun kv => kV kv.1)), I1.laid (t' := tk) (fun b o e => Heap.get?_push_of_some _ e) (Nat.le_refl _)
    (show ObjOk X.prog X.w _ _ _ (.tup (kvs.map fun kv => kV kv.1)) from ⟨by rw [List.length_map]; exact z, acc.toList, by rw [ek]; exact hv, by rw [Array.toArray_toList]; exact IsTup.new _ _⟩), rfl, q _ (I1.hok.fresh (Nat.le_refl _))⟩
end K94
set_option maxHeartbeats 4000000
/-! the container is made -/
namespace K94
open PySem PySem.Spec PyProof.Rows L2 StX
structure OwnC (K : PySem.W.Frag) (C : Addr) : Prop where
  ha : PySem.W.findIn K (.ref C) "__class__" = some (some (.builtin "object.__class__"))
  hn : PySem.W.specialIn K (.builtin "object.__class__") "__get__" = some (some (.builtin "getset_descriptor.__get__"))
  htk : PySem.W.takesIn K (.builtin "object.__class__") = some true
  hm : PySem.W.mroIn K C (.type "object") = some true
theorem isC_own {K : PySem.W.Frag} {H : Hp} {C a dx : Addr} {fs : List (Str × V)} (o : OwnC K C) (cl : Cls K C) (e : H a = some (.ins C dx fs)) : IsC K H (.ref a) (.ref C) true :=
  ⟨.ref C, .ref C, .own C, .base (.ins e cl o.ha o.hn o.htk o.hm), if_pos (beq_self_eq_true _)⟩
/-- a dict of words, each true -/
def fsS (l : List Str) : List (Key × V) := l.map fun n => (Sum.inr n, V.bl true)
theorem fsS_get (l : List Str) (k : Str) : valV (fsS l) (Sum.inr k) = if k ∈ l then some (.bl true) else none := by
  induction l with
  | nil => rfl
  | cons a l ih =>
    have e : fsS (a :: l) = (Sum.inr a, V.bl true) :: fsS l := rfl
    rw [e]
    by_cases q : a = k
    · rw [valV_pos (by show (Sum.inr a : Key) = Sum.inr k; rw [q]), if_pos (by rw [q]; exact List.mem_cons_self)]
    · rw [valV_neg fun z => q (Sum.inr.inj z), ih]
      by_cases z : k ∈ l
      · rw [if_pos z, if_pos (List.mem_cons_of_mem _ z)]
      · rw [if_neg z, if_neg fun u => (List.mem_cons.mp u).elim (fun v => q v.symm) z]
theorem fsS_keys (l : List Str) : (fsS l).map (·.1) = l.map Sum.inr := by unfold fsS; rw [List.map_map]; rfl
theorem fsS_len (l : List Str) : (fsS l).length = l.length := List.length_map _
theorem fsS_put {l : List Str} {k : Str} (h : k ∉ l) : putK (fsS l) (Sum.inr k) (.bl true) = fsS (l ++ [k]) := by
  rw [putK_new _ (by rw [fsS_get, if_neg h])]
  unfold fsS
  rw [List.map_append]
  rfl
theorem fsS_put2 {l : List Str} {k : Str} (h : k ∈ l) : putK (fsS l) (Sum.inr k) (.bl true) = fsS l := by
  unfold putK
  rw [if_pos (by rw [valV_any, fsS_get, if_pos h]; rfl)]
  unfold fsS
  rw [List.map_map]
  refine List.map_congr_left fun a _ => ?_
  show (if _ then _ else _ : Key × V) = _
  split
  · rfl
  · rfl
def six : List Str := ["use-held", "use-each", "held-use", "each-use", "held-shorter", "each-shorter"]
theorem nodup_len {α : Type} [DecidableEq α] : ∀ (l m : List α), l.Nodup → (∀ x ∈ l, x ∈ m) → l.length ≤ m.length
  | [], _, _, _ => Nat.zero_le _
  | a :: l, m, hd, h => by
    obtain ⟨h1, h2⟩ := List.nodup_cons.mp hd
    have h3 := nodup_len l (m.erase a) h2 fun x hx => (List.mem_erase_of_ne (fun (z : x = a) => h1 (by rw [← z]; exact hx))).mpr (h x (List.mem_cons_of_mem _ hx))
    have h4 := h a List.mem_cons_self
    rw [List.length_erase_of_mem h4] at h3
    have := List.length_pos_of_mem h4
    rw [List.length_cons]
    omega
section
variable {P : Program} {w : World} {K : PySem.W.Frag} {mg : Str → Option Value} {base : Heap} {f : Addr} {fd : FuncData}
def spBarOf : Sp := fun vs H Q _ => ∃ i b j, vs = [.int i, .str (wayS b), .int j] ∧ Q .non H ∧ ∀ x ∈ six, Q (.str x) H
theorem ok_bar_of (F : FnP K "bar_of" "bar_of" s_bar_of f fd) (T : Txt K mg) : FnOk P w K mg base CX0 1 f fd P_bar_of spBarOf := by
  refine okD F sc_bar_of (fun vs H Q E h => ?_) (fun cdv A outer s H vs Q E hr h => ?_)
  · obtain ⟨_, _, _, rfl, _⟩ := h; rfl
  · obtain ⟨i, b, j, rfl, q0, q⟩ := h
    refine ⟨_, pss_cons (ps_if (pt_cmpR op_eq (pv 0) (pe_gi T.i_USE) (nomark _))
      (pss_one (ps_ret (pe_ifExp (pt_cmpR op_gt (pv 2) (pe_int) (nomark _)) (pe_op op_add_str (pe_str) (pv 1)) (pe_non))))
      (pss_nil))
    (pss_cons (ps_if (pt_cmpR op_eq (pv 2) (pe_gi T.i_USE) (nomark _))
      (pss_one (ps_ret (pe_op op_add_str (pv 1) (pe_str))))
      (pss_nil))
    (pss_one (ps_ret (pe_ifExp (pt_cmpR op_gt (pv 2) (pv 0) (nomark _)) (pe_op op_add_str (pv 1) (pe_str)) (pe_non))))), ?_⟩
    have e1 : ("use-" : Str) ++ wayS b ∈ six := by cases b <;> decide
    have e2 : wayS b ++ ("-use" : Str) ∈ six := by cases b <;> decide
    have e3 : wayS b ++ ("-shorter" : Str) ∈ six := by cases b <;> decide
    have l1 : ("use-" : Str).length + (wayS b).length ≤ sizeLine := by rw [sizeLine_eq]; cases b <;> decide
    have l2 : (wayS b).length + ("-use" : Str).length ≤ sizeLine := by rw [sizeLine_eq]; cases b <;> decide
    have l3 : (wayS b).length + ("-shorter" : Str).length ≤ sizeLine := by rw [sizeLine_eq]; cases b <;> decide
    refine ⟨_, rfl, rfl, _, rfl, ite2 (fun _ => ⟨_, rfl, _, _, rfl, rfl, _, rfl, ite2 (fun _ => ⟨_, rfl, _, _, rfl, rfl, l1, q _ e1⟩) fun _ => q0⟩) fun _ => ⟨_, rfl, rfl, _, rfl, ite2 (fun _ => ⟨_, rfl, _, _, rfl, rfl, l2, q _ e2⟩) fun _ => ⟨_, rfl, _, rfl, _, _, rfl, rfl, _, rfl, ite2 (fun _ => ⟨_, rfl, _, _, rfl, rfl, l3, q _ e3⟩) fun _ => q0⟩⟩⟩
def spNames (K : PySem.W.Frag) : Sp := fun vs H Q _ => ∃ pa M dx gd kvs, vs = [.ref pa] ∧ PartsAt K H pa M dx gd kvs ∧ ∀ t, H t = none → Q (.ref t) (upd H t (.tup (M.names.map V.str)))
theorem ok_names (F : FnP K "names" "Parts.names" s_Parts_names f fd) (T : Txt K mg) : FnOk P w K mg base CX0 1 f fd P_Parts_names (spNames K) := by
  refine okD F sc_Parts_names (fun vs H Q E h => ?_) (fun cdv A outer s H vs Q E hr h => ?_)
  · obtain ⟨_, _, _, _, _, rfl, _⟩ := h; rfl
  · obtain ⟨pa, M, dx, gd, kvs, rfl, p, q⟩ := h
    refine ⟨_, pss_one (ps_ret (pe_callTy (call_tuple_dK rfl) (by rfl) T.f_tuple (by decide +kernel) (pa_cons (pe_f (pv 0) T.c_Parts T.n_Parts_g_parts) pa_nil))), ?_⟩
    refine ⟨_, rfl, _, _, _, _, rfl, p.self, lk_Parts_g_parts, _, _, rfl, p.dict, fun t ht => ?_⟩
    have e : (kvs.map fun kv => kV kv.1) = M.names.map V.str := by
      have h := congrArg (List.map kV) p.keys
      rw [List.map_map, List.map_map] at h
      exact h
    rw [e]
    exact q t ht
def spBroken (K : PySem.W.Frag) : Sp := fun vs H Q _ => ∃ pa M dx gd kvs, vs = [.ref pa] ∧ PartsAt K H pa M dx gd kvs ∧ M.Ok ∧ ∀ L H' (ys : List Str), Same H H' → H L = none → H' L = some (.lst (ys.map V.str)) → Q (.ref L) H'
theorem ok_broken_bars (F : FnP K "broken_bars" "broken_bars" s_broken_bars f fd) (T : Txt K mg) (m_Parts_names : GM P w K mg base 1 (CParts K) "names" P_Parts_names (spNames K)) (m_Parts___getitem__ : GM P w K mg base 3 (CParts K) "__getitem__" P_Parts___getitem__ (spGetPart K))
    (p_Part_wants : PR P w K mg base (CPart K) "wants" "p_wants") (p_Part_life : PR P w K mg base (CPart K) "life" "p_life") (g_bar_of : GF P w K mg base 1 "bar_of" P_bar_of spBarOf) : FnOk P w K mg base CX0 6 f fd P_broken_bars (spBroken K) := by
  refine okD F sc_broken_bars (fun vs H Q E h => ?_) (fun cdv A outer s H vs Q E hr h => ?_)
  · obtain ⟨_, _, _, _, _, rfl, _⟩ := h; rfl
  · obtain ⟨pa, M, dx, gd, kvs, rfl, p, mok, q⟩ := h
    have nd := sc_broken_bars.nd
    refine ⟨_, pss_cons (ps_set (i := 1) nd rfl (Or.inl rfl) (pe_dnewK))
    (pss_cons (ps_for PassesOwn.never rfl (pi_tup (pe_m0 m_Parts_names (hr.mono (by decide)) (pv 0))) (pg_name (i := 2) nd rfl (Or.inl rfl))
      (pss_one (ps_for PassesOwn.never rfl (pi_tup (pe_pr p_Part_wants (hr.mono (by decide)) (pe_own_get m_Parts___getitem__ T.fk (hr.mono (by decide)) (pv 0) (pv 2)))) (pg_tup rfl (pgs_cons (pg_name (i := 3) nd rfl (Or.inl rfl)) (pgs_cons (pg_name (i := 4) nd rfl (Or.inl rfl)) pgs_nil)))
        (pss_cons (ps_set (i := 5) nd rfl (Or.inl rfl) (pe_g g_bar_of (hr.mono (by decide)) (pa_cons (pe_pr p_Part_life (hr.mono (by decide)) (pe_own_get m_Parts___getitem__ T.fk (hr.mono (by decide)) (pv 0) (pv 2))) (pa_cons (pv 3) (pa_cons (pe_pr p_Part_life (hr.mono (by decide)) (pe_own_get m_Parts___getitem__ T.fk (hr.mono (by decide)) (pv 0) (pv 4))) pa_nil)))))
        (pss_one (ps_if (pt_cmpR op_notN (pv 5) (pe_non) (nomark _))
          (pss_one (ps_dput (hu_of hr) (pv 1) (pv 5) (pe_bl) rfl))
          (pss_nil)))))))
    (pss_one (ps_ret (pe_callB (call_sortedD rfl) (by rfl) T.f_sorted (by decide +kernel) (pa_cons (pv 1) pa_nil))))), ?_⟩
    intro D nD
    have s0 : Same H (upd H D (.dK [])) := Same.new nD
    have p0 := p.mono s0
    refine ⟨_, rfl, _, _, _, rfl, p0.self, no_Parts_names, pa, M, dx, gd, kvs, rfl, p0, fun t ht => ?_⟩
    have s1 : Same (upd H D (.dK [])) (upd (upd H D (.dK [])) t (.tup (M.names.map V.str))) := Same.new ht
    have hD1 := s1 _ _ (upd_same (H := H) (a := D) (o := .dK []))
    have ht1 : (upd (upd H D (.dK [])) t (.tup (M.names.map V.str))) t = some (.tup (M.names.map V.str)) := upd_same
    have s01 := s0.trans s1
    generalize upd (upd H D (.dK [])) t (.tup (M.names.map V.str)) = H1 at s1 hD1 ht1 s01 ⊢
    refine ⟨t, rfl, ⟨_, SqT.of ht1⟩, for_tup (K := K) (a := t) (xs := M.names.map V.str) (fun i σ H' => ∃ v2 v3 v4 v5 l, σ = [some (.ref pa), some (.ref D), v2, v3, v4, v5] ∧ Same H H' ∧ H' t = some (.tup (M.names.map V.str)) ∧ H' D = some (.dK (fsS l)) ∧ l.Nodup ∧ ∀ x ∈ l, x ∈ six)
      ⟨none, none, none, none, [], rfl, s01, ht1, hD1, List.nodup_nil, fun x hx => by cases hx⟩ ?_ ?_ ?_⟩
    · rintro i σ H' hi ⟨v2, v3, v4, v5, l, rfl, a1, a2, a3, a4, a5⟩
      exact SqT.of a2
    · rintro i x σ H' hi ⟨v2, v3, v4, v5, l, rfl, a1, a2, a3, a4, a5⟩
      rw [List.getElem?_map] at hi
      obtain ⟨n, hn, rfl⟩ := Option.map_eq_some_iff.mp hi
      have hmem := List.mem_of_getElem? hn
      obtain ⟨pr, hpr⟩ := some_of ((mok.dom n).mp hmem)
      have p1 := p.mono a1
      refine ⟨_, rfl, _, rfl, _, _, _, rfl, p1.self, pa, M, dx, gd, kvs, n, pr, rfl, p1, hpr, fun v hv => ?_⟩
      obtain ⟨ap, dxa, tw, ws, rfl, hap, htw, hws⟩ := hv
      refine ⟨_, _, _, _, rfl, hap, lk_Part_p_wants, tw, rfl, ⟨_, SqT.of htw⟩, for_tup (K := K) (a := tw) (xs := ws) (fun i σ H' => ∃ v3 v4 v5 l, σ = [some (.ref pa), some (.ref D), some (.str n), v3, v4, v5] ∧ Same H H' ∧ H' t = some (.tup (M.names.map V.str)) ∧ H' tw = some (.tup ws) ∧ Paired (WantAt H') ws pr.wants ∧ H' D = some (.dK (fsS l)) ∧ l.Nodup ∧ ∀ x ∈ l, x ∈ six)
        ⟨_, _, _, l, rfl, a1, a2, htw, hws, a3, a4, a5⟩ ?_ ?_ ?_⟩
      · rintro j σ H2 hj ⟨v3, v4, v5, l, rfl, b1, b2, b3, b4, b5, b6, b7⟩
        exact SqT.of b3
      · rintro j x σ H2 hj ⟨v3, v4, v5, l, rfl, b1, b2, b3, b4, b5, b6, b7⟩
        obtain ⟨wt, hwt, ⟨aw, rfl, haw⟩⟩ := Paired.get b4 hj
        have hdn := mok.down n pr hpr wt (List.mem_of_getElem? hwt)
        obtain ⟨pw, hpw⟩ := some_of hdn.1
        have p2 := p.mono b1
        refine ⟨aw, _, rfl, SqT.of haw, rfl, _, _, rfl, _, _, rfl, rfl, ?_⟩
        refine ⟨_, rfl, _, rfl, _, _, _, rfl, p2.self, pa, M, dx, gd, kvs, n, pr, rfl, p2, hpr, fun v hv => ?_⟩
        obtain ⟨ap2, dxa2, tw2, ws2, rfl, hap2, _, _⟩ := hv
        refine ⟨_, _, _, _, rfl, hap2, lk_Part_p_life, _, rfl, _, rfl, _, rfl, _, _, _, rfl, p2.self, pa, M, dx, gd, kvs, wt.2, pw, rfl, p2, hpw, fun v hv => ?_⟩
        obtain ⟨ap3, dxa3, tw3, ws3, rfl, hap3, _, _⟩ := hv
        have tail : ∀ x ∈ six, ∃ v3 v4 v5 l', ([some (.ref pa), some (.ref D), some (.str n), some (.str (wayS wt.1)), some (.str wt.2), some (.str x)] : L2.St) = [some (.ref pa), some (.ref D), some (.str n), v3, v4, v5] ∧ Same H (upd H2 D (.dK (putK (fsS l) (Sum.inr x) (.bl true)))) ∧ (upd H2 D (.dK (putK (fsS l) (Sum.inr x) (.bl true)))) t = some (.tup (M.names.map V.str)) ∧ (upd H2 D (.dK (putK (fsS l) (Sum.inr x) (.bl true)))) tw = some (.tup ws) ∧ Paired (WantAt (upd H2 D (.dK (putK (fsS l) (Sum.inr x) (.bl true))))) ws pr.wants ∧ (upd H2 D (.dK (putK (fsS l) (Sum.inr x) (.bl true)))) D = some (.dK (fsS l')) ∧ l'.Nodup ∧ ∀ x ∈ l', x ∈ six := fun x hx => by
          have tu : Tups H2 (upd H2 D (.dK (putK (fsS l) (Sum.inr x) (.bl true)))) := Tups.wr b5 True.intro
          have hs : Same H (upd H2 D (.dK (putK (fsS l) (Sum.inr x) (.bl true)))) := fun b o e => by rw [upd_ne (ne_of_none e nD)]; exact b1 b o e
          by_cases hin : x ∈ l
          · exact ⟨_, _, _, l, rfl, hs, tu _ _ b2, tu _ _ b3, Paired.mono (fun _ _ z => z.mono tu) b4, by rw [upd_same, fsS_put2 hin], b6, b7⟩
          · refine ⟨_, _, _, l ++ [x], rfl, hs, tu _ _ b2, tu _ _ b3, Paired.mono (fun _ _ z => z.mono tu) b4, by rw [upd_same, fsS_put hin], List.nodup_append.mpr ⟨b6, List.nodup_cons.mpr ⟨List.not_mem_nil, List.nodup_nil⟩, fun a ha b hb z => hin (by rw [List.mem_singleton.mp hb] at z; rw [← z]; exact ha)⟩, fun y hy => ?_⟩
            rcases List.mem_append.mp hy with z | z
            · exact b7 y z
            · rw [List.mem_singleton.mp z]; exact hx
        refine ⟨_, _, _, _, rfl, hap3, lk_Part_p_life, pr.life, wt.1, pw.life, rfl, ⟨_, rfl, rfl, _, rfl, iteF ⟨_, _, _, l, rfl, b1, b2, b3, b4, b5, b6, b7⟩⟩, fun x hx => ⟨_, rfl, rfl, _, rfl, iteT ⟨_, rfl, _, rfl, _, _, rfl, DPut.k (k := Sum.inr x) b5 (by rw [fsS_len]; exact small1000 (Nat.le_trans (nodup_len l six b6 b7) (by decide))), tail x hx⟩⟩⟩
      · rintro σ H2 ⟨v3, v4, v5, l, rfl, b1, b2, b3, b4, b5, b6, b7⟩
        exact ⟨_, v3, v4, v5, l, rfl, b1, b2, b5, b6, b7⟩
    · rintro σ H' ⟨v2, v3, v4, v5, l, rfl, a1, a2, a3, a4, a5⟩
      refine ⟨_, rfl, D, _, l, rfl, .inl a3, fsS_keys l, Nat.lt_of_le_of_lt (nodup_len l six a4 a5) (by decide), fun ys L _ _ hL => ?_⟩
      exact q L _ ys (a1.trans (Same.new hL)) (a1.free hL) upd_same
end
end K94
set_option maxHeartbeats 4000000
/-! the container is made: its init -/
namespace K94
open PySem PySem.Spec PyProof.Rows L2 StX
/-- an object under construction at x, over H0; l: what was laid beside it -/
structure Ini (C : Addr) (H0 H : Hp) (x dx : Addr) (fs : List (Str × V)) (l : List (Addr × HO)) : Prop where
  same : Same H0 H
  nx : H0 x = none
  self : H x = some (.ins C dx fs)
  at_ : ∀ p ∈ l, H p.1 = some p.2
  new : ∀ p ∈ l, H0 p.1 = none
  apart : (x :: l.map (·.1)).Nodup
section
variable {C : Addr} {H0 H : Hp} {x dx : Addr} {fs : List (Str × V)} {l : List (Addr × HO)}
theorem Ini.start (s : Same H0 H) (n : H0 x = none) (h : H x = some (.ins C dx fs)) : Ini C H0 H x dx fs [] := ⟨s, n, h, fun _ h => (by cases h), fun _ h => (by cases h), List.nodup_cons.mpr ⟨List.not_mem_nil, List.nodup_nil⟩⟩
theorem Ini.store (i : Ini C H0 H x dx fs l) (fs' : List (Str × V)) : Ini C H0 (upd H x (.ins C dx fs')) x dx fs' l := by
  refine ⟨fun b o e => ?_, i.nx, upd_same, fun p hp => ?_, i.new, i.apart⟩
  · rw [upd_ne (ne_of_none e i.nx)]; exact i.same b o e
  · rw [upd_ne fun z => ?_]
    · exact i.at_ p hp
    · exact (List.nodup_cons.mp i.apart).1 (z ▸ List.mem_map_of_mem hp)
theorem Ini.alloc (i : Ini C H0 H x dx fs l) {a : Addr} (o : HO) (n : H a = none) : Ini C H0 (upd H a o) x dx fs ((a, o) :: l) := by
  have s : Same H (upd H a o) := Same.new n
  obtain ⟨h1, h2⟩ := List.nodup_cons.mp i.apart
  have nxa : x ≠ a := ne_of_none i.self n
  refine ⟨i.same.trans s, i.nx, s _ _ i.self, fun p hp => ?_, fun p hp => ?_, List.nodup_cons.mpr ⟨fun z => ?_, List.nodup_cons.mpr ⟨fun z => ?_, h2⟩⟩⟩
  · rcases List.mem_cons.mp hp with rfl | hp
    · exact upd_same
    · exact s _ _ (i.at_ p hp)
  · rcases List.mem_cons.mp hp with rfl | hp
    · exact i.same.free n
    · exact i.new p hp
  · rcases List.mem_cons.mp z with z | z
    · exact nxa z
    · exact h1 z
  · obtain ⟨p, hp, e⟩ := List.mem_map.mp z
    have := i.at_ p hp
    rw [e, n] at this
    cases this
theorem Ini.put (l1 l2 : List (Addr × HO)) {a : Addr} {o : HO} (i : Ini C H0 H x dx fs (l1 ++ (a, o) :: l2)) (o' : HO) : Ini C H0 (upd H a o') x dx fs (l1 ++ (a, o') :: l2) := by
  have ha := i.new (a, o) (List.mem_append_right _ List.mem_cons_self)
  obtain ⟨h1, h2⟩ := List.nodup_cons.mp i.apart
  have hm : ∀ q : HO, (l1 ++ (a, q) :: l2).map (·.1) = l1.map (·.1) ++ a :: l2.map (·.1) := fun q => by rw [List.map_append, List.map_cons]
  rw [hm] at h1 h2
  obtain ⟨n1, n2, n3⟩ := List.nodup_append.mp h2
  obtain ⟨n4, n5⟩ := List.nodup_cons.mp n2
  have nxa : x ≠ a := fun z => h1 (List.mem_append_right _ (by rw [z]; exact List.mem_cons_self))
  refine ⟨fun b u e => ?_, i.nx, by rw [upd_ne nxa]; exact i.self, fun p hp => ?_, fun p hp => ?_, by rw [hm]; exact List.nodup_cons.mpr ⟨h1, h2⟩⟩
  · rw [upd_ne (ne_of_none e ha)]; exact i.same b u e
  · rcases List.mem_append.mp hp with hp | hp
    · rw [upd_ne fun z => n3 p.1 (List.mem_map_of_mem hp) a List.mem_cons_self z]
      exact i.at_ p (List.mem_append_left _ hp)
    · rcases List.mem_cons.mp hp with rfl | hp
      · exact upd_same
      · rw [upd_ne fun z => n4 (by rw [← z]; exact List.mem_map_of_mem hp)]
        exact i.at_ p (List.mem_append_right _ (List.mem_cons_of_mem _ hp))
  · rcases List.mem_append.mp hp with hp | hp
    · exact i.new p (List.mem_append_left _ hp)
    · rcases List.mem_cons.mp hp with rfl | hp
      · exact ha
      · exact i.new p (List.mem_append_right _ (List.mem_cons_of_mem _ hp))
end
def Cor.zero : Cor := ⟨[⟨0, none, true⟩], [], [], [], [], []⟩
def Wks.zero : Wks := ⟨0, []⟩
section
variable {P : Program} {w : World} {K : PySem.W.Frag} {mg : Str → Option Value} {base : Heap} {f : Addr} {fd : FuncData}
def spNeedBook (K : PySem.W.Frag) : Sp := fun vs H Q _ => ∃ b bk dx tb, vs = [.ref b] ∧ BookAt K H b bk dx tb ∧ Q .non H
theorem ok_need_book (F : FnP K "need_book" "need_book" s_need_book f fd) (T : Txt K mg) (O : OwnC K (CBook K)) : FnOk P w K mg base CX0 1 f fd P_need_book (spNeedBook K) := by
  refine okD F sc_need_book (fun vs H Q E h => ?_) (fun cdv A outer s H vs Q E hr h => ?_)
  · obtain ⟨_, _, _, _, rfl, _⟩ := h; rfl
  · obtain ⟨b, bk, dx, tb, rfl, h, q⟩ := h
    refine ⟨_, pss_one (ps_if (pt_not (pt_val (pe_callB call_isC (by rfl) T.f_isinstance (by decide +kernel) (pa_cons (pv 0) (pa_cons (pe_gr T.g_Book) pa_nil)))))
      (pss_never)
      (pss_nil)), ?_⟩
    exact ⟨_, rfl, _, _, _, rfl, isC_own O T.c_Book h.self, _, rfl, iteF q⟩
def spNeedParts (K : PySem.W.Frag) : Sp := fun vs H Q _ => ∃ pa M dx gd kvs, vs = [.ref pa] ∧ PartsAt K H pa M dx gd kvs ∧ Q .non H
theorem ok_need_parts (F : FnP K "need_parts" "need_parts" s_need_parts f fd) (T : Txt K mg) (O : OwnC K (CParts K)) : FnOk P w K mg base CX0 1 f fd P_need_parts (spNeedParts K) := by
  refine okD F sc_need_parts (fun vs H Q E h => ?_) (fun cdv A outer s H vs Q E hr h => ?_)
  · obtain ⟨_, _, _, _, _, rfl, _⟩ := h; rfl
  · obtain ⟨pa, M, dx, gd, kvs, rfl, h, q⟩ := h
    refine ⟨_, pss_one (ps_if (pt_not (pt_val (pe_callB call_isC (by rfl) T.f_isinstance (by decide +kernel) (pa_cons (pv 0) (pa_cons (pe_gr T.g_Parts) pa_nil)))))
      (pss_never)
      (pss_nil)), ?_⟩
    exact ⟨_, rfl, _, _, _, rfl, isC_own O T.c_Parts h.self, _, rfl, iteF q⟩
def Ad.zero (x dx p y dy a1 a2 a3 a4 a5 a6 : Addr) : Ad :=
  ⟨fun r => match r with | .self => x | .things => a1 | .scopes => p | .kept => a2 | .works => a3 | .loose => a4 | .left => a5 | .faults => a6 | .scope _ => y | .thing _ => x | .got _ => x,
   fun r => match r with | .scope _ => dy | _ => dx, 0, [], []⟩
def zix : Rl → Nat
  | .self => 0 | .faults => 1 | .left => 2 | .loose => 3 | .works => 4 | .kept => 5 | .things => 6 | .scope _ => 7 | .scopes => 9 | .thing _ => 0 | .got _ => 0
theorem ctr_zero {g : Gam} {H0 H : Hp} {x dx p y dy a1 a2 a3 a4 a5 a6 : Addr} (st : Stat K H0 g) (i : Ini (CContainer K) H0 H x dx (fsContainer (.ref g.b) (.ref g.pa) (.ref p) (.ref a1) (.ref a2) (.ref a3) (.int 0) (.ref a4) (.ref a5) (.ref a6) (.int 0))
    [(a6, .lst []), (a5, .lst []), (a4, .lst []), (a3, .dK []), (a2, .dT []), (a1, .lst []), (y, .ins (CScope K) dy (fsScope (.int 0) .non (.bl true))), (dy, .own y), (p, .dK [(Sum.inl 0, .ref y)])]) :
    Ctr K g H0 H (Ad.zero x dx p y dy a1 a2 a3 a4 a5 a6) Cor.zero Wks.zero := by
  have h := i.at_
  have hn := i.new
  have hx := i.nx
  have hap := i.apart
  simp only [List.forall_mem_cons, List.map_cons, List.map_nil] at h hn hap
  obtain ⟨h6, h5, h4, h3, h2, h1, hy, _, hp, _⟩ := h
  obtain ⟨n6, n5, n4, n3, n2, n1, ny, _, np, _⟩ := hn
  refine ⟨st, i.same, fun r o e => ?_, fun r1 r2 e1 e2 e => ?_, fun r e => ?_, .nil, .nil⟩
  · cases r with
    | self => exact i.self.trans e
    | things => exact h1.trans e
    | scopes => exact hp.trans e
    | kept => exact h2.trans e
    | works => exact h3.trans e
    | loose => exact h4.trans e
    | left => exact h5.trans e
    | faults => exact h6.trans e
    | thing j => cases e
    | got j => cases e
    | scope j => cases j with
      | zero => exact hy.trans e
      | succ j => cases e
  · have none_t : ∀ j, (cont K g (Ad.zero x dx p y dy a1 a2 a3 a4 a5 a6) Cor.zero Wks.zero (.thing j)).isSome = true → False := fun j z => by cases z
    have none_g : ∀ j, (cont K g (Ad.zero x dx p y dy a1 a2 a3 a4 a5 a6) Cor.zero Wks.zero (.got j)).isSome = true → False := fun j z => by cases z
    have none_s : ∀ j, (cont K g (Ad.zero x dx p y dy a1 a2 a3 a4 a5 a6) Cor.zero Wks.zero (.scope j)).isSome = true → j = 0 := fun j z => by
      cases j with
      | zero => rfl
      | succ j => cases z
    have el : ∀ r, (cont K g (Ad.zero x dx p y dy a1 a2 a3 a4 a5 a6) Cor.zero Wks.zero r).isSome = true → [x, a6, a5, a4, a3, a2, a1, y, dy, p][zix r]? = some ((Ad.zero x dx p y dy a1 a2 a3 a4 a5 a6).a r) := fun r z => by
      cases r <;> first | rfl | exact (none_t _ z).elim | exact (none_g _ z).elim
    have q1 := el r1 e1
    have q2 := el r2 e2
    rw [e] at q1
    obtain ⟨l1, _⟩ := List.getElem?_eq_some_iff.mp q1
    have q3 : zix r1 = zix r2 := (List.getElem?_inj l1 hap).mp (q1.trans q2.symm)
    cases r1 with
    | thing j => exact (none_t _ e1).elim
    | got j => exact (none_g _ e1).elim
    | scope j =>
      rw [none_s _ e1]
      cases r2 <;> first | exact (none_t _ e2).elim | exact (none_g _ e2).elim | (rw [none_s _ e2]) | (simp [zix] at q3)
    | _ => cases r2 <;> first | rfl | exact (none_t _ e2).elim | exact (none_g _ e2).elim | (simp [zix] at q3)
  · cases r with
    | self => exact hx
    | things => exact n1
    | scopes => exact np
    | kept => exact n2
    | works => exact n3
    | loose => exact n4
    | left => exact n5
    | faults => exact n6
    | thing j => cases e
    | got j => cases e
    | scope j => exact ny
def spCInit (K : PySem.W.Frag) : Sp := fun vs H Q _ => ∃ x dx g H0, vs = [.ref x, .ref g.b, .ref g.pa] ∧ Stat K H0 g ∧ Same H0 H ∧ H0 x = none ∧ H x = some (.ins (CContainer K) dx []) ∧ ∀ A H', Ctr K g H0 H' A Cor.zero Wks.zero → A.a .self = x → Q .non H'
theorem ok_Container___init__ (F : FnP K "__init__" "Container.__init__" s_Container___init__ f fd) (T : Txt K mg) (g_need_book : GF P w K mg base 1 "need_book" P_need_book (spNeedBook K)) (g_need_parts : GF P w K mg base 1 "need_parts" P_need_parts (spNeedParts K))
    (g_broken_bars : GF P w K mg base 6 "broken_bars" P_broken_bars (spBroken K)) (p_Book_bars : PR P w K mg base (CBook K) "bars" "b_bars") (k_Scope : GC P w K mg base 1 "Scope" (CScope K) P_Scope___init__ (spScopeInit K)) : FnOk P w K mg base CX0 8 f fd P_Container___init__ (spCInit K) := by
  refine okD F sc_Container___init__ (fun vs H Q E h => ?_) (fun cdv A outer s H vs Q E hr h => ?_)
  · obtain ⟨_, _, _, _, rfl, _⟩ := h; rfl
  · obtain ⟨x, dx, g, H0, rfl, st, sm, nx, hx, q⟩ := h
    have nd := sc_Container___init__.nd
    refine ⟨_, pss_cons (ps_expr (pe_g g_need_book (hr.mono (by decide)) (pa_cons (pv 1) pa_nil)))
    (pss_cons (ps_expr (pe_g g_need_parts (hr.mono (by decide)) (pa_cons (pv 2) pa_nil)))
    (pss_cons (ps_for PassesOwn.never rfl (pi_list (pe_g g_broken_bars (hr.mono (by decide)) (pa_cons (pv 2) pa_nil))) (pg_name (i := 3) nd rfl (Or.inl rfl))
      (pss_one (ps_if (pt_cmpR op_in_seq (pv 3) (pe_pr p_Book_bars (hr.mono (by decide)) (pv 1)) rfl)
        (pss_never)
        (pss_nil))))
    (pss_cons (ps_f (pv 0) (pv 1) T.c_Container T.n_Container_c_book)
    (pss_cons (ps_f (pv 0) (pv 2) T.c_Container T.n_Container_c_parts)
    (pss_cons (ps_f (pv 0) (pe_disp (pps_cons (pe_int) (pe_c k_Scope (hr.mono (by decide)) (pa_cons (pe_int) (pa_cons (pe_non) pa_nil))) (pps_nil)) (by rfl) (by rfl) (fun z => by cases z) (by decide)) T.c_Container T.n_Container_c_scopes)
    (pss_cons (ps_f (pv 0) (pe_lst (pa_nil)) T.c_Container T.n_Container_c_things)
    (pss_cons (ps_f (pv 0) (pe_dnewT) T.c_Container T.n_Container_c_kept)
    (pss_cons (ps_f (pv 0) (pe_dnewK) T.c_Container T.n_Container_c_works)
    (pss_cons (ps_f (pv 0) (pe_int) T.c_Container T.n_Container_c_put_off)
    (pss_cons (ps_f (pv 0) (pe_lst (pa_nil)) T.c_Container T.n_Container_c_loose)
    (pss_cons (ps_f (pv 0) (pe_lst (pa_nil)) T.c_Container T.n_Container_c_left)
    (pss_cons (ps_f (pv 0) (pe_lst (pa_nil)) T.c_Container T.n_Container_c_faults)
    (pss_one (ps_f (pv 0) (pe_int) T.c_Container T.n_Container_c_deeds)))))))))))))), ?_⟩
    have st1 := st.mono sm
    obtain ⟨dxb, tb, bk⟩ := st1.book
    obtain ⟨dxp, gd, kvs, pt⟩ := st1.parts
    refine ⟨_, rfl, g.b, g.bk, dxb, tb, rfl, bk, _, rfl, g.pa, g.M, dxp, gd, kvs, rfl, pt, _, rfl, g.pa, g.M, dxp, gd, kvs, rfl, pt, st.mok, fun L H1 ys s1 nL hL => ?_⟩
    refine ⟨_, rfl, ⟨_, SqL.of hL⟩, for_list (K := K) (a := L) (xs := ys.map V.str) (fun i σ H' => ∃ v3, σ = [some (.ref x), some (.ref g.b), some (.ref g.pa), v3] ∧ H' = H1) ⟨none, rfl, rfl⟩ (fun i σ H' _ ⟨_, _, e⟩ => by rw [e]; exact SqL.of hL) ?_ ?_⟩
    · rintro i y σ H' hi ⟨v3, rfl, e⟩
      rw [List.getElem?_map] at hi
      obtain ⟨z, hz, rfl⟩ := Option.map_eq_some_iff.mp hi
      rw [e]
      have bk1 := bk.mono s1
      exact ⟨_, rfl, _, rfl, _, _, _, _, rfl, bk1.self, lk_Book_b_bars, tb, [], rfl, .inr (SqT.of bk1.bars), rfl, rfl, _, rfl, iteF ⟨_, rfl, rfl⟩⟩
    · rintro σ H1' ⟨v3, rfl, e⟩
      rw [e]
      have i0 : Ini (CContainer K) H0 H1 x dx [] [] := Ini.start (sm.trans s1) nx (s1 _ _ hx)
      refine ⟨_, rfl, _, rfl, _, _, _, rfl, i0.self, ln_Container_0, ?_⟩
      have i1 := i0.store (putF "c_book" (.ref g.b) [])
      generalize upd H1 x (.ins (CContainer K) dx (putF "c_book" (.ref g.b) [])) = H2 at i1 ⊢
      refine ⟨_, rfl, _, rfl, _, _, _, rfl, i1.self, ln_Container_1, ?_⟩
      have i2 := i1.store (putF "c_parts" (.ref g.pa) (putF "c_book" (.ref g.b) []))
      generalize upd H2 x (.ins (CContainer K) dx (putF "c_parts" (.ref g.pa) (putF "c_book" (.ref g.b) []))) = H3 at i2 ⊢
      intro p np
      have i3 := i2.alloc (.dK []) np
      generalize upd H3 p (.dK []) = H4 at i3 ⊢
      intro y dy ny ndy hne
      refine ⟨y, dy, _, _, rfl, upd_same, rfl, ?_⟩
      rw [upd_upd]
      have i4 := i3.alloc (.own y) ndy
      have i5 := i4.alloc (.ins (CScope K) dy (fsScope (.int 0) .non (.bl true))) (by rw [upd_ne (Ne.symm hne)]; exact ny)
      generalize upd (upd H4 dy (.own y)) y (.ins (CScope K) dy (fsScope (.int 0) .non (.bl true))) = H5 at i5 ⊢
      have ep : H5 p = some (.dK []) := i5.at_ (p, .dK []) (.tail _ (.tail _ (.head _)))
      refine ⟨ep, ([(Sum.inl 0, V.ref y)] : List (Key × V)), rfl, (show 1 ≤ 15 by decide), ?_⟩
      have i6 := Ini.put [(y, .ins (CScope K) dy (fsScope (.int 0) .non (.bl true))), (dy, .own y)] [] i5 (.dK (mergeK [] [(Sum.inl 0, .ref y)]))
      generalize upd H5 p (.dK (mergeK [] [(Sum.inl 0, .ref y)])) = H6 at i6 ⊢
      refine ⟨_, rfl, _, _, _, rfl, i6.self, ln_Container_2, ?_⟩
      have i7 := i6.store (putF "c_scopes" (.ref p) (putF "c_parts" (.ref g.pa) (putF "c_book" (.ref g.b) [])))
      generalize upd H6 x (.ins (CContainer K) dx (putF "c_scopes" (.ref p) (putF "c_parts" (.ref g.pa) (putF "c_book" (.ref g.b) [])))) = H7 at i7 ⊢
      generalize hf3 : putF "c_scopes" (.ref p) (putF "c_parts" (.ref g.pa) (putF "c_book" (.ref g.b) [])) = f3 at i7 ⊢
      refine ⟨Nat.zero_le _, fun a1 n1 => ?_⟩
      have i8 := i7.alloc (.lst []) n1
      generalize upd H7 a1 (.lst []) = H8 at i8 ⊢
      refine ⟨_, rfl, _, _, _, rfl, i8.self, by rw [← hf3]; exact ln_Container_3, ?_⟩
      have i9 := i8.store (putF "c_things" (.ref a1) f3)
      generalize upd H8 x (.ins (CContainer K) dx (putF "c_things" (.ref a1) f3)) = H9 at i9 ⊢
      generalize hf4 : putF "c_things" (.ref a1) f3 = f4 at i9 ⊢
      intro a2 n2
      have i10 := i9.alloc (.dT []) n2
      generalize upd H9 a2 (.dT []) = H10 at i10 ⊢
      refine ⟨_, rfl, _, _, _, rfl, i10.self, by rw [← hf4, ← hf3]; exact ln_Container_4, ?_⟩
      have i11 := i10.store (putF "c_kept" (.ref a2) f4)
      generalize upd H10 x (.ins (CContainer K) dx (putF "c_kept" (.ref a2) f4)) = H11 at i11 ⊢
      generalize hf5 : putF "c_kept" (.ref a2) f4 = f5 at i11 ⊢
      intro a3 n3
      have i12 := i11.alloc (.dK []) n3
      generalize upd H11 a3 (.dK []) = H12 at i12 ⊢
      refine ⟨_, rfl, _, _, _, rfl, i12.self, by rw [← hf5, ← hf4, ← hf3]; exact ln_Container_5, ?_⟩
      have i13 := i12.store (putF "c_works" (.ref a3) f5)
      generalize upd H12 x (.ins (CContainer K) dx (putF "c_works" (.ref a3) f5)) = H13 at i13 ⊢
      generalize hf6 : putF "c_works" (.ref a3) f5 = f6 at i13 ⊢
      refine ⟨_, rfl, _, _, _, rfl, i13.self, by rw [← hf6, ← hf5, ← hf4, ← hf3]; exact ln_Container_6, ?_⟩
      have i14 := i13.store (putF "c_put_off" (.int 0) f6)
      generalize upd H13 x (.ins (CContainer K) dx (putF "c_put_off" (.int 0) f6)) = H14 at i14 ⊢
      generalize hf7 : putF "c_put_off" (.int 0) f6 = f7 at i14 ⊢
      refine ⟨Nat.zero_le _, fun a4 n4 => ?_⟩
      have i15 := i14.alloc (.lst []) n4
      generalize upd H14 a4 (.lst []) = H15 at i15 ⊢
      refine ⟨_, rfl, _, _, _, rfl, i15.self, by rw [← hf7, ← hf6, ← hf5, ← hf4, ← hf3]; exact ln_Container_7, ?_⟩
      have i16 := i15.store (putF "c_loose" (.ref a4) f7)
      generalize upd H15 x (.ins (CContainer K) dx (putF "c_loose" (.ref a4) f7)) = H16 at i16 ⊢
      generalize hf8 : putF "c_loose" (.ref a4) f7 = f8 at i16 ⊢
      refine ⟨Nat.zero_le _, fun a5 n5 => ?_⟩
      have i17 := i16.alloc (.lst []) n5
      generalize upd H16 a5 (.lst []) = H17 at i17 ⊢
      refine ⟨_, rfl, _, _, _, rfl, i17.self, by rw [← hf8, ← hf7, ← hf6, ← hf5, ← hf4, ← hf3]; exact ln_Container_8, ?_⟩
      have i18 := i17.store (putF "c_left" (.ref a5) f8)
      generalize upd H17 x (.ins (CContainer K) dx (putF "c_left" (.ref a5) f8)) = H18 at i18 ⊢
      generalize hf9 : putF "c_left" (.ref a5) f8 = f9 at i18 ⊢
      refine ⟨Nat.zero_le _, fun a6 n6 => ?_⟩
      have i19 := i18.alloc (.lst []) n6
      generalize upd H18 a6 (.lst []) = H19 at i19 ⊢
      refine ⟨_, rfl, _, _, _, rfl, i19.self, by rw [← hf9, ← hf8, ← hf7, ← hf6, ← hf5, ← hf4, ← hf3]; exact ln_Container_9, ?_⟩
      have i20 := i19.store (putF "c_faults" (.ref a6) f9)
      generalize upd H19 x (.ins (CContainer K) dx (putF "c_faults" (.ref a6) f9)) = H20 at i20 ⊢
      generalize hf10 : putF "c_faults" (.ref a6) f9 = f10 at i20 ⊢
      refine ⟨_, rfl, _, _, _, rfl, i20.self, by rw [← hf10, ← hf9, ← hf8, ← hf7, ← hf6, ← hf5, ← hf4, ← hf3]; exact ln_Container_10, ?_⟩
      have i21 := i20.store (putF "c_deeds" (.int 0) f10)
      generalize upd H20 x (.ins (CContainer K) dx (putF "c_deeds" (.int 0) f10)) = H21 at i21 ⊢
      subst hf10 hf9 hf8 hf7 hf6 hf5 hf4 hf3
      rw [mk_Container] at i21
      exact q _ _ (ctr_zero st i21) rfl
end
end K94
set_option maxHeartbeats 4000000
/-! a book is made -/
namespace K94
open PySem PySem.Spec PyProof.Rows L2 StX
theorem inV_str {z : Str} : ∀ {ws : List Str}, z ∈ ws → inV (.str z) (ws.map V.str) = true
  | [], h => nomatch h
  | a :: ws, h => by
    show (eqV (.str a) (.str z) || inV (.str z) (ws.map V.str)) = true
    rcases List.mem_cons.mp h with rfl | h
    · show ((z == z) || _) = true
      rw [beq_self_eq_true, Bool.true_or]
    · rw [inV_str h, Bool.or_true]
theorem flat_str : ∀ ws : List Str, (ws.map V.str).all flatV = true
  | [] => rfl
  | a :: ws => by
    show (true && (ws.map V.str).all flatV) = true
    rw [flat_str ws]
    rfl
section
variable {P : Program} {w : World} {K : PySem.W.Frag} {mg : Str → Option Value} {base : Heap} {f : Addr} {fd : FuncData}
theorem kitAny_lt_list : PySem.W.kitAny K (.type "list") [.type "list", .type "tuple"] = some true := kitAny_cons (b := true) (kit_ty (by decide +kernel)) (fun z => by cases z) fun _ => rfl
theorem kitAny_lt_tup : PySem.W.kitAny K (.type "tuple") [.type "list", .type "tuple"] = some true := kitAny_cons (b := false) (kit_ty (by decide +kernel)) (fun _ => kitAny_cons (b := true) (kit_ty (by decide +kernel)) (fun z => by cases z) fun _ => rfl) (fun z => by cases z)
def spOneOf (K : PySem.W.Frag) : Sp := fun vs H Q _ => ∃ (z : Str) (wd : Addr) (ws : List Str), vs = [.str z, .ref wd] ∧ SqT K H wd (ws.map V.str) ∧ z ∈ ws ∧ Q (.bl true) H
theorem ok_is_one_of (F : FnP K "is_one_of" "is_one_of" s_is_one_of f fd) (T : Txt K mg) : FnOk P w K mg base CX0 1 f fd P_is_one_of (spOneOf K) := by
  refine okD F sc_is_one_of (fun vs H Q E h => ?_) (fun cdv A outer s H vs Q E hr h => ?_)
  · obtain ⟨_, _, _, rfl, _⟩ := h; rfl
  · obtain ⟨z, wd, ws, rfl, h, hz, q⟩ := h
    refine ⟨_, pss_one (ps_ret (pe_and (pe_callB call_isC (by rfl) T.f_isinstance (by decide +kernel) (pa_cons (pv 0) (pa_cons (pe_bltn (v := .ty "str") rfl T.f_str boot_str rfl) pa_nil))) (pe_one (pe_cmpR op_in_seq (pv 0) (pv 1) rfl)))), ?_⟩
    refine ⟨_, rfl, _, _, _, rfl, isC_str, _, rfl, iteT ⟨_, rfl, _, rfl, wd, _, rfl, .inr h, rfl, flat_str ws, ?_⟩⟩
    rw [inV_str hz]
    exact q
def spNeedField (K : PySem.W.Frag) : Sp := fun vs H Q _ => ∃ (fl z : Str) (wd : Addr) (ws : List Str), vs = [.str fl, .str z, .ref wd] ∧ SqT K H wd (ws.map V.str) ∧ z ∈ ws ∧ Q .non H
theorem ok_need_field (F : FnP K "need_field" "need_field" s_need_field f fd) (T : Txt K mg) (g_is_one_of : GF P w K mg base 1 "is_one_of" P_is_one_of (spOneOf K)) : FnOk P w K mg base CX0 2 f fd P_need_field (spNeedField K) := by
  refine okD F sc_need_field (fun vs H Q E h => ?_) (fun cdv A outer s H vs Q E hr h => ?_)
  · obtain ⟨_, _, _, _, rfl, _⟩ := h; rfl
  · obtain ⟨fl, z, wd, ws, rfl, h, hz, q⟩ := h
    refine ⟨_, pss_one (ps_if (pt_not (pt_val (pe_g g_is_one_of (hr.mono (by decide)) (pa_cons (pv 1) (pa_cons (pv 2) pa_nil)))))
      (pss_never)
      (pss_nil)), ?_⟩
    exact ⟨_, rfl, _, rfl, z, wd, ws, rfl, h, hz, _, rfl, iteF q⟩
def spAreBars (K : PySem.W.Frag) : Sp := fun vs H Q _ => ∃ l, vs = [.ref l] ∧ H l = some (.lst []) ∧ ∀ H', Same H H' → Q (.bl true) H'
theorem ok_are_bars (F : FnP K "are_bars" "are_bars" s_are_bars f fd) (T : Txt K mg) (g_is_one_of : GF P w K mg base 1 "is_one_of" P_is_one_of (spOneOf K)) : FnOk P w K mg base CX0 3 f fd P_are_bars (spAreBars K) := by
  refine okD F sc_are_bars (fun vs H Q E h => ?_) (fun cdv A outer s H vs Q E hr h => ?_)
  · obtain ⟨_, rfl, _⟩ := h; rfl
  · obtain ⟨l, rfl, hl, q⟩ := h
    have nd := sc_are_bars.nd
    refine ⟨_, pss_cons (ps_if (PW.pt (pw_or (pt_not (pt_val (pe_callB call_isiT (by rfl) T.f_isinstance (by decide +kernel) (pa_cons (pv 0) (pa_cons (pe_tup (pa_cons (pe_bltn (v := .ty "list") rfl T.f_list boot_list rfl) (pa_cons (pe_bltn (v := .ty "tuple") rfl T.f_tuple boot_tuple rfl) pa_nil))) pa_nil))))) (pw_or1 (pt_not (pt_val (pe_callB (cr_all rfl) (by rfl) T.f_all (by decide +kernel) (pa_cons (pe_lc (own := [("word", 1)]) (g := gName 1) rfl nd (pi_list (pv 0)) (blkOk_by (N := N_are_bars) (sc := defScope s_are_bars) (own := [("word", 1)]) (by decide +kernel)) (fun _ _ _ _ _ => pg_name (i := 1) nd rfl (Or.inl rfl)) (fun _ _ _ _ _ => pts_nil) (fun _ _ _ _ _ => pe_g g_is_one_of (hr.mono (by decide)) (pa_cons (pv 1) (pa_cons (pe_gr T.r_BARS) pa_nil)))) pa_nil)))))))
      (pss_one (ps_ret (pe_bl)))
      (pss_nil))
    (pss_one (ps_ret (pe_cmpR op_eq (pe_lenSet rfl (by rfl) T.f_len (by rfl) T.f_set (pv 0)) (pe_callB call_len_seq (by rfl) T.f_len (by decide +kernel) (pa_cons (pv 0) pa_nil)) (nomark _)))), ?_⟩
    refine ⟨_, rfl, by show 2 ≤ sizeLine; rw [sizeLine_eq]; decide, fun t ht => ?_⟩
    have s1 : Same H (upd H t (.tup [.ty "list", .ty "tuple"])) := Same.new ht
    have hl1 := s1 _ _ hl
    refine ⟨_, t, _, .type "list", _, true, rfl, upd_same, .cons (.ty _) (.cons (.ty _) .nil), .base (.lst hl1), kitAny_lt_list, _, rfl, iteF ?_⟩
    refine ⟨_, rfl, l, rfl, ⟨[], SqL.of hl1⟩, fun L hL => ?_⟩
    have s2 := Same.new (o := .lst []) hL
    refine lc_it (walk_list (K := K) (a := l) (xs := [])) (fun i H' => H' = upd (upd H t (.tup [.ty "list", .ty "tuple"])) L (.lst [])) rfl (fun i H' _ h => by rw [h]; exact SqL.of (s2 _ _ hl1)) (fun i x H' H'' hi => absurd hi (Nat.not_lt_zero _)) ?_
    rintro H' rfl
    have s12 := s1.trans s2
    refine ⟨L, [], rfl, SqL.of upd_same, _, rfl, iteF ⟨_, rfl, l, [], rfl, .inl (SqL.of (s12 _ _ hl)), by decide, _, rfl, l, [], rfl, .inl (SqL.of (s12 _ _ hl)), rfl, q _ s12⟩⟩
def spBookInit (K : PySem.W.Frag) : Sp := fun vs H Q _ => ∃ x dx bk bl H0, vs = [.ref x, .str bk.held, .str bk.each, .str bk.lifted, .str bk.ends, .str bk.works, .ref bl] ∧ Same H0 H ∧ H0 x = none ∧ H x = some (.ins (CBook K) dx []) ∧ H bl = some (.lst []) ∧
  bk.held ∈ (["home", "now"] : List Str) ∧ bk.each ∈ (["now", "program"] : List Str) ∧ bk.lifted ∈ (["nothing", "kept"] : List Str) ∧ bk.ends ∈ (["holder", "never", "scope"] : List Str) ∧ bk.works ∈ (["own", "same", "wait"] : List Str) ∧
  ∀ H' tb, Same H0 H' → BookAt K H' x bk dx tb → Q .non H'
theorem ok_Book___init__ {kws : List (Str × V)} (F : FunD K "__init__" "Book.__init__" (defArgs s_Book___init__) (defBody s_Book___init__) (defScope s_Book___init__) [] kws f fd) (T : Txt K mg) (g_need_field : GF P w K mg base 2 "need_field" P_need_field (spNeedField K)) (g_are_bars : GF P w K mg base 3 "are_bars" P_are_bars (spAreBars K)) :
    FnOk P w K mg base CX0 5 f fd P_Book___init__ (spBookInit K) := by
  refine okD F sc_Book___init__ (fun vs H Q E h => ?_) (fun cdv A outer s H vs Q E hr h => ?_)
  · obtain ⟨_, _, _, _, _, rfl, _⟩ := h; rfl
  · obtain ⟨x, dx, bk, bl, H0, rfl, sm, nx, hx, hbl, m1, m2, m3, m4, m5, q⟩ := h
    refine ⟨_, pss_cons (ps_expr (pe_g g_need_field (hr.mono (by decide)) (pa_cons (pe_str) (pa_cons (pv 1) (pa_cons (pe_gr T.r_HELD_books) pa_nil)))))
    (pss_cons (ps_expr (pe_g g_need_field (hr.mono (by decide)) (pa_cons (pe_str) (pa_cons (pv 2) (pa_cons (pe_gr T.r_EACH_books) pa_nil)))))
    (pss_cons (ps_expr (pe_g g_need_field (hr.mono (by decide)) (pa_cons (pe_str) (pa_cons (pv 3) (pa_cons (pe_gr T.r_LIFTED) pa_nil)))))
    (pss_cons (ps_expr (pe_g g_need_field (hr.mono (by decide)) (pa_cons (pe_str) (pa_cons (pv 4) (pa_cons (pe_gr T.r_ENDS) pa_nil)))))
    (pss_cons (ps_expr (pe_g g_need_field (hr.mono (by decide)) (pa_cons (pe_str) (pa_cons (pv 5) (pa_cons (pe_gr T.r_WORKS) pa_nil)))))
    (pss_cons (ps_if (pt_not (pt_val (pe_g g_are_bars (hr.mono (by decide)) (pa_cons (pv 6) pa_nil))))
      (pss_never)
      (pss_nil))
    (pss_cons (ps_f (pv 0) (pv 1) T.c_Book T.n_Book_b_held)
    (pss_cons (ps_f (pv 0) (pv 2) T.c_Book T.n_Book_b_each)
    (pss_cons (ps_f (pv 0) (pv 3) T.c_Book T.n_Book_b_lifted)
    (pss_cons (ps_f (pv 0) (pv 4) T.c_Book T.n_Book_b_ends)
    (pss_cons (ps_f (pv 0) (pv 5) T.c_Book T.n_Book_b_works)
    (pss_one (ps_f (pv 0) (pe_callTy call_tuple_of (by rfl) T.f_tuple (by decide +kernel) (pa_cons (pe_callB cr_sortedS (by rfl) T.f_sorted (by decide +kernel) (pa_cons (pv 6) pa_nil)) pa_nil)) T.c_Book T.n_Book_b_bars)))))))))))), ?_⟩
    refine ⟨_, rfl, _, _, _, ["home", "now"], rfl, T.t_HELD_books H, m1, _, rfl, _, _, _, ["now", "program"], rfl, T.t_EACH_books H, m2, _, rfl, _, _, _, ["nothing", "kept"], rfl, T.t_LIFTED H, m3, _, rfl, _, _, _, ["holder", "never", "scope"], rfl, T.t_ENDS H, m4, _, rfl, _, _, _, ["own", "same", "wait"], rfl, T.t_WORKS H, m5, _, rfl, bl, rfl, hbl, fun H1 s1 => ⟨_, rfl, iteF ?_⟩⟩
    have hbl1 := s1 _ _ hbl
    have i0 : Ini (CBook K) H0 H1 x dx [] [] := Ini.start (sm.trans s1) nx (s1 _ _ hx)
    have nxb : x ≠ bl := fun z => by rw [z, hbl] at hx; cases hx
    refine ⟨_, rfl, _, rfl, _, _, _, rfl, i0.self, ln_Book_0, _, rfl, _, rfl, _, _, _, rfl, upd_same, ln_Book_1, _, rfl, _, rfl, _, _, _, rfl, upd_same, ln_Book_2, _, rfl, _, rfl, _, _, _, rfl, upd_same, ln_Book_3, _, rfl, _, rfl, _, _, _, rfl, upd_same, ln_Book_4, ?_⟩
    rw [upd_upd, upd_upd, upd_upd, upd_upd]
    have i1 := i0.store (putF "b_works" (.str bk.works) (putF "b_ends" (.str bk.ends) (putF "b_lifted" (.str bk.lifted) (putF "b_each" (.str bk.each) (putF "b_held" (.str bk.held) [])))))
    have hbl2 : (upd H1 x (.ins (CBook K) dx (putF "b_works" (.str bk.works) (putF "b_ends" (.str bk.ends) (putF "b_lifted" (.str bk.lifted) (putF "b_each" (.str bk.each) (putF "b_held" (.str bk.held) []))))))) bl = some (.lst []) := by rw [upd_ne (Ne.symm nxb)]; exact hbl1
    generalize upd H1 x (.ins (CBook K) dx (putF "b_works" (.str bk.works) (putF "b_ends" (.str bk.ends) (putF "b_lifted" (.str bk.lifted) (putF "b_each" (.str bk.each) (putF "b_held" (.str bk.held) [])))))) = H2 at i1 hbl2 ⊢
    refine ⟨_, rfl, bl, [], rfl, SqL.of hbl2, by decide, fun ys p hp _ hn => ?_⟩
    have e : ys = [] := List.Perm.eq_nil hp
    subst e
    have i2 := i1.alloc (.lst (List.map V.str [])) hn
    refine ⟨p, [], rfl, .inl ⟨SqL.of upd_same, fun tb htb => ?_⟩⟩
    have i3 := i2.alloc (.tup []) htb
    generalize upd (upd H2 p (.lst (List.map V.str []))) tb (.tup []) = H3 at i3 ⊢
    refine ⟨_, rfl, _, _, _, rfl, i3.self, ln_Book_5, ?_⟩
    have i4 := i3.store (putF "b_bars" (.ref tb) (putF "b_works" (.str bk.works) (putF "b_ends" (.str bk.ends) (putF "b_lifted" (.str bk.lifted) (putF "b_each" (.str bk.each) (putF "b_held" (.str bk.held) []))))))
    generalize upd H3 x (.ins (CBook K) dx (putF "b_bars" (.ref tb) (putF "b_works" (.str bk.works) (putF "b_ends" (.str bk.ends) (putF "b_lifted" (.str bk.lifted) (putF "b_each" (.str bk.each) (putF "b_held" (.str bk.held) []))))))) = H4 at i4 ⊢
    rw [mk_Book] at i4
    exact q H4 tb i4.same ⟨i4.self, i4.at_ (tb, .tup []) (.head _)⟩
end
end K94
set_option maxHeartbeats 4000000
/-! a part is made -/
namespace K94
open PySem PySem.Spec PyProof.Rows L2 StX
def lets : List Str := ["a", "b", "c", "d", "e", "f"]
theorem lets_one {n : Str} (h : n ∈ lets) : ∃ c, n = ⟨#[c]⟩ ∧ c ∈ ("abcdefghijklmnopqrstuvwxyz" : Str).cps.toList := by
  have h : n ∈ (["a", "b", "c", "d", "e", "f"] : List Str) := h
  simp only [List.mem_cons, List.not_mem_nil, or_false] at h
  rcases h with rfl | rfl | rfl | rfl | rfl | rfl <;> exact ⟨_, rfl, by decide⟩
theorem lets_ok {n : Str} (h : n ∈ lets) : PyData.strOk n = true := by
  have h : n ∈ (["a", "b", "c", "d", "e", "f"] : List Str) := h
  simp only [List.mem_cons, List.not_mem_nil, or_false] at h
  rcases h with rfl | rfl | rfl | rfl | rfl | rfl <;> decide +kernel
section
variable {P : Program} {w : World} {K : PySem.W.Frag} {mg : Str → Option Value} {base : Heap} {f : Addr} {fd : FuncData}
def spPartName : Sp := fun vs H Q _ => ∃ n : Str, vs = [.str n] ∧ n ∈ lets ∧ ∀ H', Same H H' → Q (.bl true) H'
theorem ok_is_part_name (F : FnP K "is_part_name" "is_part_name" s_is_part_name f fd) (T : Txt K mg) : FnOk P w K mg base CX0 1 f fd P_is_part_name spPartName := by
  refine okD F sc_is_part_name (fun vs H Q E h => ?_) (fun cdv A outer s H vs Q E hr h => ?_)
  · obtain ⟨_, rfl, _⟩ := h; rfl
  · obtain ⟨n, rfl, hn, q⟩ := h
    have nd := sc_is_part_name.nd
    refine ⟨_, pss_cons (ps_if (PW.pt (pw_or (pt_not (pt_val (pe_callB call_isC (by rfl) T.f_isinstance (by decide +kernel) (pa_cons (pv 0) (pa_cons (pe_bltn (v := .ty "str") rfl T.f_str boot_str rfl) pa_nil))))) (pw_or1 (pt_not (pt_chain op_le op_le (pe_int) (pe_callB call_len_str (by rfl) T.f_len (by decide +kernel) (pa_cons (pv 0) pa_nil)) (pe_gi T.i_LONGEST_NAME))))))
      (pss_one (ps_ret (pe_bl)))
      (pss_nil))
    (pss_one (ps_ret (pe_callB (cr_all rfl) (by rfl) T.f_all (by decide +kernel) (pa_cons (pe_lc (own := [("letter", 1)]) (g := gName 1) rfl nd (pi_str (pv 0)) (blkOk_by (N := N_is_part_name) (sc := defScope s_is_part_name) (own := [("letter", 1)]) (by decide +kernel)) (fun _ _ _ _ _ => pg_name (i := 1) nd rfl (Or.inl rfl)) (fun _ _ _ _ _ => pts_nil) (fun _ _ _ _ _ => pe_cmpR op_in_sign (pv 1) (pe_gs T.s_LETTERS) rfl)) pa_nil)))), ?_⟩
    obtain ⟨c, rfl, hc⟩ := lets_one hn
    refine ⟨_, rfl, _, _, _, rfl, isC_str, _, rfl, iteF ⟨_, rfl, _, rfl, ?_⟩⟩
    have l1 : ((⟨#[c]⟩ : Str).length : Int) = 1 := rfl
    refine ⟨by show 1 ≤ sizeLine; rw [sizeLine_eq]; decide, _, _, rfl, rfl, _, rfl, ?_⟩
    rw [decide_eq_true (show (1 : Int) ≤ ((⟨#[c]⟩ : Str).length : Int) by rw [l1]; decide)]
    refine iteT ⟨_, _, rfl, rfl, _, rfl, ?_⟩
    rw [decide_eq_true (show ((⟨#[c]⟩ : Str).length : Int) ≤ 6 by rw [l1]; decide)]
    refine iteF ⟨_, rfl, _, rfl, fun L hL => ?_⟩
    refine lc_it (walk_str (z := ⟨#[c]⟩)) (fun i H' => Same H H' ∧ H' L = some (.lst ((List.replicate i true).map V.bl))) ⟨Same.new hL, upd_same⟩ (fun _ _ _ _ => True.intro) ?_ ?_
    · rintro i x H' H'' hi ⟨h1, h2⟩ ⟨rfl, c', hc', rfl⟩
      have hi1 : i < 1 := hi
      have hi0 : i = 0 := by omega
      subst hi0
      have e : c' = c := by simpa using hc'.symm
      subst e
      refine ⟨rfl, _, rfl, c', _, rfl, rfl, _, h2, by rw [sizeLine_eq]; decide, fun b o e => ?_, ?_⟩
      · rw [upd_ne (ne_of_none e hL)]
        exact h1 b o e
      · rw [upd_same, decide_eq_true hc]
        rfl
    · rintro H' ⟨h1, h2⟩
      exact ⟨L, List.replicate 1 true, rfl, SqL.of h2, q H' h1⟩
def spIsWant : Sp := fun vs H Q _ => ∃ (a : Addr) (b : Bool) (n : Str), vs = [.ref a] ∧ H a = some (.tup [.str (wayS b), .str n]) ∧ n ∈ lets ∧ ∀ H', Same H H' → Q (.bl true) H'
theorem ok_is_want (F : FnP K "is_want" "is_want" s_is_want f fd) (T : Txt K mg) (g_is_part_name : GF P w K mg base 1 "is_part_name" P_is_part_name spPartName) : FnOk P w K mg base CX0 2 f fd P_is_want spIsWant := by
  refine okD F sc_is_want (fun vs H Q E h => ?_) (fun cdv A outer s H vs Q E hr h => ?_)
  · obtain ⟨_, _, _, rfl, _⟩ := h; rfl
  · obtain ⟨a, b, n, rfl, ha, hn, q⟩ := h
    refine ⟨_, pss_cons (ps_if (PW.pt (pw_or (pt_not (pt_val (pe_callB call_isC (by rfl) T.f_isinstance (by decide +kernel) (pa_cons (pv 0) (pa_cons (pe_bltn (v := .ty "tuple") rfl T.f_tuple boot_tuple rfl) pa_nil))))) (pw_or (pt_cmpR op_ne (pe_callB call_len_seq (by rfl) T.f_len (by decide +kernel) (pa_cons (pv 0) pa_nil)) (pe_int) (nomark _)) (pw_or1 (pt_not (pt_val (pe_g g_is_part_name (hr.mono (by decide)) (pa_cons (pe_ix ix_tup (pv 0) (pe_int) (fun _ _ => rfl)) pa_nil))))))))
      (pss_one (ps_ret (pe_bl)))
      (pss_nil))
    (pss_one (ps_ret (pe_and (pe_callB call_isC (by rfl) T.f_isinstance (by decide +kernel) (pa_cons (pe_ix ix_tup (pv 0) (pe_int) (fun _ _ => rfl)) (pa_cons (pe_bltn (v := .ty "str") rfl T.f_str boot_str rfl) pa_nil))) (pe_one (pe_cmpR op_in_seq (pe_ix ix_tup (pv 0) (pe_int) (fun _ _ => rfl)) (pe_tup (pa_cons (pe_gs T.s_HELD_parts) (pa_cons (pe_gs T.s_EACH_parts) pa_nil))) rfl))))), ?_⟩
    refine ⟨_, rfl, _, _, _, rfl, isC_tup ha, _, rfl, iteF ⟨_, rfl, a, _, rfl, .inr (SqT.of ha), rfl, _, rfl, ?_⟩⟩
    rw [decide_eq_true (show V.int (([V.str (wayS b), V.str n] : List V).length : Nat) = V.int 2 from rfl)]
    refine iteF ⟨_, rfl, a, _, 1, _, rfl, rfl, SqT.of ha, rfl, n, rfl, hn, fun H1 s1 => ⟨_, rfl, iteF ?_⟩⟩
    have ha1 := s1 _ _ ha
    refine ⟨_, rfl, a, _, 0, _, rfl, rfl, SqT.of ha1, rfl, _, _, _, rfl, isC_str, _, rfl, iteT ?_⟩
    refine ⟨_, rfl, a, _, 0, _, rfl, rfl, SqT.of ha1, rfl, by show 2 ≤ sizeLine; rw [sizeLine_eq]; decide, fun t ht => ⟨t, _, rfl, .inr (SqT.of upd_same), rfl, rfl, ?_⟩⟩
    have e : inV (.str (wayS b)) [V.str "held", V.str "each"] = true := by cases b <;> decide
    rw [e]
    exact q _ (s1.trans (Same.new ht))

/-- the dict that are_wants makes: name -> way -/
def wayD (l : List (Bool × Str)) : List (Key × V) := l.map fun w => (Sum.inr w.2, V.str (wayS w.1))
theorem wayD_none {l : List (Bool × Str)} {n : Str} (h : n ∉ l.map (·.2)) : valV (wayD l) (Sum.inr n) = none := by
  induction l with
  | nil => rfl
  | cons a l ih =>
    have e : wayD (a :: l) = (Sum.inr a.2, V.str (wayS a.1)) :: wayD l := rfl
    rw [e, valV_neg fun z => h (by rw [← Sum.inr.inj z]; exact List.mem_cons_self)]
    exact ih fun z => h (List.mem_cons_of_mem _ z)
theorem wayD_put {l : List (Bool × Str)} {w : Bool × Str} (h : w.2 ∉ l.map (·.2)) : putK (wayD l) (Sum.inr w.2) (.str (wayS w.1)) = wayD (l ++ [w]) := by
  rw [putK_new _ (wayD_none h)]
  unfold wayD
  rw [List.map_append]
  rfl
theorem nodup_take {α : Type} {l : List α} {i : Nat} {x : α} (hd : l.Nodup) (h : l[i]? = some x) : x ∉ l.take i := fun z => by
  obtain ⟨j, hj⟩ := List.getElem?_of_mem z
  have hj2 : j < i := by
    have := (List.getElem?_eq_some_iff.mp hj).1
    rw [List.length_take] at this
    omega
  have hj3 : l[j]? = some x := by rw [List.getElem?_take, if_pos hj2] at hj; exact hj
  have hil := (List.getElem?_eq_some_iff.mp h).1
  have hjl := (List.getElem?_eq_some_iff.mp hj3).1
  have := (List.getElem?_inj hjl hd).mp (hj3.trans h.symm)
  omega
def spAreWants : Sp := fun vs H Q _ => ∃ (tw : Addr) (ws : List V) (l : List (Bool × Str)), vs = [.ref tw] ∧ H tw = some (.tup ws) ∧ Paired (WantAt H) ws l ∧ (∀ w ∈ l, w.2 ∈ lets) ∧ (l.map (·.2)).Nodup ∧ l.length ≤ 1000 ∧ ∀ H', Same H H' → Q (.bl true) H'
theorem ok_are_wants (F : FnP K "are_wants" "are_wants" s_are_wants f fd) (T : Txt K mg) (g_is_want : GF P w K mg base 2 "is_want" P_is_want spIsWant) : FnOk P w K mg base CX0 3 f fd P_are_wants spAreWants := by
  refine okD F sc_are_wants (fun vs H Q E h => ?_) (fun cdv A outer s H vs Q E hr h => ?_)
  · obtain ⟨_, _, _, rfl, _⟩ := h; rfl
  · obtain ⟨tw, ws, l, rfl, htw, hws, hl, hnd, hlen, q⟩ := h
    have nd := sc_are_wants.nd
    refine ⟨_, pss_cons (ps_if (PW.pt (pw_or (pt_not (pt_val (pe_callB call_isiT (by rfl) T.f_isinstance (by decide +kernel) (pa_cons (pv 0) (pa_cons (pe_tup (pa_cons (pe_bltn (v := .ty "list") rfl T.f_list boot_list rfl) (pa_cons (pe_bltn (v := .ty "tuple") rfl T.f_tuple boot_tuple rfl) pa_nil))) pa_nil))))) (pw_or1 (pt_not (pt_val (pe_callB (cr_all rfl) (by rfl) T.f_all (by decide +kernel) (pa_cons (pe_lc (own := [("want", 1)]) (g := gName 1) rfl nd (pi_tup (pv 0)) (blkOk_by (N := N_are_wants) (sc := defScope s_are_wants) (own := [("want", 1)]) (by decide +kernel)) (fun _ _ _ _ _ => pg_name (i := 1) nd rfl (Or.inl rfl)) (fun _ _ _ _ _ => pts_nil) (fun _ _ _ _ _ => pe_g g_is_want (hr.mono (by decide)) (pa_cons (pv 1) pa_nil))) pa_nil)))))))
      (pss_one (ps_ret (pe_bl)))
      (pss_nil))
    (pss_one (ps_ret (pe_cmpR op_eq (pe_callB call_lenD (by rfl) T.f_len (by decide +kernel) (pa_cons (pe_dc (own := [("way", 2), ("name", 3)]) (g := gTup K 2 (gCons (gName 2) (gCons (gName 3) gNil))) rfl nd (pi_tup (pv 0)) (blkOk_by (N := N_are_wants) (sc := defScope s_are_wants) (own := [("way", 2), ("name", 3)]) (by decide +kernel)) (fun _ _ _ _ _ => pg_tup rfl (pgs_cons (pg_name (i := 2) nd rfl (Or.inl rfl)) (pgs_cons (pg_name (i := 3) nd rfl (Or.inl rfl)) pgs_nil))) (fun _ _ _ _ _ => pts_nil) (fun _ _ _ _ _ => pv 3) (fun _ _ _ _ _ => pv 2)) pa_nil)) (pe_callB call_len_seq (by rfl) T.f_len (by decide +kernel) (pa_cons (pv 0) pa_nil)) (nomark _)))), ?_⟩
    have hwl : ws.length = l.length := Paired.length hws
    refine ⟨_, rfl, by show 2 ≤ sizeLine; rw [sizeLine_eq]; decide, fun t ht => ?_⟩
    have s1 : Same H (upd H t (.tup [.ty "list", .ty "tuple"])) := Same.new ht
    have htt : (upd H t (.tup [.ty "list", .ty "tuple"])) t = some (.tup [.ty "list", .ty "tuple"]) := upd_same
    generalize upd H t (.tup [.ty "list", .ty "tuple"]) = H1 at s1 htt ⊢
    have htw1 := s1 _ _ htw
    refine ⟨_, t, _, .type "tuple", _, true, rfl, htt, .cons (.ty _) (.cons (.ty _) .nil), .base (.tup htw1), kitAny_lt_tup, _, rfl, iteF ?_⟩
    refine ⟨_, rfl, tw, rfl, ⟨ws, SqT.of htw1⟩, fun L hL => ?_⟩
    refine lc_it (walk_tup (K := K) (a := tw) (xs := ws)) (fun i H' => Same H1 H' ∧ H' L = some (.lst ((List.replicate i true).map V.bl))) ⟨Same.new hL, upd_same⟩ (fun i H' _ h => SqT.of (h.1 _ _ htw1)) ?_ ?_
    · rintro i x H' H'' hi ⟨h1, h2⟩ ⟨rfl, hx⟩
      obtain ⟨wt, hwt, aw, rfl, haw⟩ := Paired.get hws hx
      have haw1 := h1 _ _ (s1 _ _ haw)
      refine ⟨rfl, _, rfl, aw, wt.1, wt.2, rfl, haw1, hl wt (List.mem_of_getElem? hwt), fun H3 s3 => ⟨_, s3 _ _ h2, by rw [List.length_map, List.length_replicate]; exact small1000 (by omega), fun b o e => ?_, ?_⟩⟩
      · rw [upd_ne (ne_of_none e hL)]
        exact s3 _ _ (h1 b o e)
      · rw [upd_same, List.replicate_succ', List.map_append]
        rfl
    · rintro H2 ⟨h1, h2⟩
      refine ⟨L, List.replicate ws.length true, rfl, SqL.of h2, ?_⟩
      have ha : (List.replicate ws.length true).all id = true := by rw [List.all_eq_true]; intro x hx; exact (List.mem_replicate.mp hx).2
      rw [ha]
      have s2 := s1.trans h1
      have htw2 := s2 _ _ htw
      refine ⟨_, rfl, iteF ⟨_, rfl, tw, rfl, ⟨ws, SqT.of htw2⟩, fun D hD => ?_⟩⟩
      refine dc_it (walk_tup (K := K) (a := tw) (xs := ws)) (fun i H' => Same H2 H' ∧ H' D = some (.dK (wayD (l.take i)))) ⟨Same.new hD, upd_same⟩ (fun i H' _ h => SqT.of (h.1 _ _ htw2)) ?_ ?_
      · rintro i x H' H'' hi ⟨h1, h3⟩ ⟨rfl, hx⟩
        obtain ⟨wt, hwt, aw, rfl, haw⟩ := Paired.get hws hx
        have haw1 := h1 _ _ (s2 _ _ haw)
        have hnin : wt.2 ∉ (l.take i).map (·.2) := by
          rw [List.map_take]
          exact nodup_take hnd (by rw [List.getElem?_map, hwt]; rfl)
        refine ⟨aw, _, rfl, SqT.of haw1, rfl, _, _, rfl, _, _, rfl, rfl, rfl, _, rfl, _, rfl, _, Sum.inr wt.2, rfl, h3, by unfold wayD; rw [List.length_map, List.length_take]; exact small1000 (by omega), fun b o e => ?_, ?_⟩
        · rw [upd_ne (ne_of_none e hD)]
          exact h1 b o e
        · rw [upd_same, wayD_put hnin, List.take_add_one, hwt]
          rfl
      · rintro H3 ⟨h3, h4⟩
        have s3 := s2.trans h3
        refine ⟨D, _, rfl, h4, _, rfl, tw, ws, rfl, .inr (SqT.of (s3 _ _ htw)), rfl, ?_⟩
        have e : (wayD (l.take ws.length)).length = ws.length := by unfold wayD; rw [List.length_map, List.length_take]; omega
        rw [e, decide_eq_true rfl]
        exact q _ s3
def spPartInit (K : PySem.W.Frag) : Sp := fun vs H Q _ => ∃ (x dx tw : Addr) (ws : List V) (p : Prt) (H0 : Hp), vs = [.ref x, .int p.life, .ref tw] ∧ Same H0 H ∧ H0 x = none ∧ H x = some (.ins (CPart K) dx []) ∧ H0 tw = some (.tup ws) ∧ Paired (WantAt H0) ws p.wants ∧ (∀ w ∈ p.wants, w.2 ∈ lets) ∧ (p.wants.map (·.2)).Nodup ∧ p.wants.length ≤ 1000 ∧ -1 ≤ p.life ∧ p.life ≤ 3 ∧
  ∀ H', Same H0 H' → PartAt K H' (.ref x) p → Q .non H'
theorem ok_Part___init__ {dvs : List V} {kws : List (Str × V)} (F : FunD K "__init__" "Part.__init__" (defArgs s_Part___init__) (defBody s_Part___init__) (defScope s_Part___init__) dvs kws f fd) (T : Txt K mg) (g_is_number : GF P w K mg base 1 "is_number" P_is_number spIsNumber) (g_are_wants : GF P w K mg base 3 "are_wants" P_are_wants spAreWants) :
    FnOk P w K mg base CX0 5 f fd P_Part___init__ (spPartInit K) := by
  refine okD F sc_Part___init__ (fun vs H Q E h => ?_) (fun cdv A outer s H vs Q E hr h => ?_)
  · obtain ⟨_, _, _, _, _, _, rfl, _⟩ := h; rfl
  · obtain ⟨x, dx, tw, ws, p, H0, rfl, sm, nx, hx, htw, hws, hl, hnd, hlen, hl1, hl2, q⟩ := h
    refine ⟨_, pss_cons (ps_if (PW.pt (pw_or (pt_not (pt_val (pe_g g_is_number (hr.mono (by decide)) (pa_cons (pv 1) pa_nil)))) (pw_or1 (pt_not (pt_chain op_le op_le (pe_gi T.i_USE) (pv 1) (pe_gi T.i_MOST_LIFE))))))
      (pss_never)
      (pss_nil))
    (pss_cons (ps_if (pt_not (pt_val (pe_g g_are_wants (hr.mono (by decide)) (pa_cons (pv 2) pa_nil))))
      (pss_never)
      (pss_nil))
    (pss_cons (ps_f (pv 0) (pv 1) T.c_Part T.n_Part_p_life)
    (pss_one (ps_f (pv 0) (pe_callTy call_tuple_of (by rfl) T.f_tuple (by decide +kernel) (pa_cons (pv 2) pa_nil)) T.c_Part T.n_Part_p_wants)))), ?_⟩
    have htw1 := sm _ _ htw
    refine ⟨_, rfl, _, rfl, _, rfl, iteF ⟨_, rfl, _, _, rfl, rfl, _, rfl, ?_⟩⟩
    rw [decide_eq_true hl1]
    refine iteT ⟨_, _, rfl, rfl, _, rfl, ?_⟩
    rw [decide_eq_true hl2]
    refine iteF ⟨_, rfl, tw, ws, p.wants, rfl, htw1, Paired.mono (fun _ _ z => z.mono (Same.tups sm)) hws, hl, hnd, hlen, fun H1 s1 => ⟨_, rfl, iteF ?_⟩⟩
    have i0 : Ini (CPart K) H0 H1 x dx [] [] := Ini.start (sm.trans s1) nx (s1 _ _ hx)
    have i1 := i0.store (putF "p_life" (.int p.life) [])
    refine ⟨_, rfl, _, rfl, _, _, _, rfl, i0.self, ln_Part_0, ?_⟩
    generalize upd H1 x (.ins (CPart K) dx (putF "p_life" (.int p.life) [])) = H2 at i1 ⊢
    have i2 := i1.store (putF "p_wants" (.ref tw) (putF "p_life" (.int p.life) []))
    refine ⟨_, rfl, tw, ws, rfl, .inr ⟨SqT.of (i1.same _ _ htw), _, rfl, _, _, _, rfl, i1.self, ln_Part_1, ?_⟩⟩
    rw [mk_Part] at i2 ⊢
    exact q _ i2.same ⟨x, dx, tw, ws, rfl, i2.self, i2.same _ _ htw, Paired.mono (fun _ _ z => z.mono (Same.tups i2.same)) hws⟩
end
end K94
set_option maxHeartbeats 4000000
/-! the parts: plain -/
namespace K94
open PySem PySem.Spec PyProof.Rows L2 StX
/-- the parts as written: names and parts, a part wants later ones only -/
abbrev PL := List (Str × Prt)
def getL (L : PL) (n : Str) : Option Prt := (L.find? fun e => decide (e.1 = n)).map (·.2)
def idxL (L : PL) (n : Str) : Nat := L.findIdx fun e => decide (e.1 = n)
def rkL (L : PL) (n : Str) : Nat := L.length - 1 - idxL L n
structure LOk (d : Nat) (L : PL) : Prop where
  d1 : 1 ≤ d
  d3 : d ≤ 3
  nd : (L.map (·.1)).Nodup
  let_ : ∀ e ∈ L, e.1 ∈ lets
  l1 : 1 ≤ L.length
  l6 : L.length ≤ 6
  life : ∀ e ∈ L, -1 ≤ e.2.life ∧ e.2.life ≤ d
  wnd : ∀ e ∈ L, (e.2.wants.map (·.2)).Nodup
  down : ∀ (i : Nat) (e : Str × Prt), L[i]? = some e → ∀ w ∈ e.2.wants, ∃ (j : Nat) (e' : Str × Prt), i < j ∧ L[j]? = some e' ∧ e'.1 = w.2
theorem getL_some {L : PL} {n : Str} {p : Prt} (h : getL L n = some p) : ∃ i : Nat, L[i]? = some (n, p) := by
  unfold getL at h
  obtain ⟨e, he, rfl⟩ := Option.map_eq_some_iff.mp h
  have h1 := List.mem_of_find?_eq_some he
  have h2 := List.find?_some he
  have h2 : e.1 = n := of_decide_eq_true h2
  obtain ⟨i, hi⟩ := List.getElem?_of_mem h1
  exact ⟨i, by rw [hi, ← h2]⟩
theorem idx_at : ∀ {L : PL} {i : Nat} {e : Str × Prt}, (L.map (·.1)).Nodup → L[i]? = some e → idxL L e.1 = i
  | [], _, _, _, h => by simp at h
  | a :: L, 0, e, _, h => by
    simp at h
    subst h
    unfold idxL
    rw [List.findIdx_cons, decide_eq_true rfl]
    rfl
  | a :: L, i + 1, e, hd, h => by
    have h : L[i]? = some e := by simpa using h
    obtain ⟨h1, h2⟩ := List.nodup_cons.mp hd
    have h3 : a.1 ≠ e.1 := fun z => h1 (by show a.1 ∈ L.map (·.1); rw [z]; exact List.mem_map_of_mem (List.mem_of_getElem? h))
    unfold idxL
    rw [List.findIdx_cons, decide_eq_false h3]
    show idxL L e.1 + 1 = i + 1
    rw [idx_at h2 h]
theorem getL_at : ∀ {L : PL} {i : Nat} {e : Str × Prt}, (L.map (·.1)).Nodup → L[i]? = some e → getL L e.1 = some e.2
  | [], _, _, _, h => by simp at h
  | a :: L, 0, e, _, h => by
    simp at h
    subst h
    unfold getL
    rw [List.find?_cons, decide_eq_true rfl]
    rfl
  | a :: L, i + 1, e, hd, h => by
    have h : L[i]? = some e := by simpa using h
    obtain ⟨h1, h2⟩ := List.nodup_cons.mp hd
    have h3 : a.1 ≠ e.1 := fun z => h1 (by show a.1 ∈ L.map (·.1); rw [z]; exact List.mem_map_of_mem (List.mem_of_getElem? h))
    unfold getL
    rw [List.find?_cons, decide_eq_false h3]
    exact getL_at h2 h
theorem rk_at {L : PL} {i : Nat} {e : Str × Prt} (hd : (L.map (·.1)).Nodup) (h : L[i]? = some e) : rkL L e.1 = L.length - 1 - i := by unfold rkL; rw [idx_at hd h]
theorem getL_mem {L : PL} {n : Str} : (getL L n).isSome = true ↔ n ∈ L.map (·.1) := by
  constructor
  · intro h
    obtain ⟨p, hp⟩ := some_of h
    obtain ⟨i, hi⟩ := getL_some hp
    exact List.mem_map.mpr ⟨_, List.mem_of_getElem? hi, rfl⟩
  · intro h
    obtain ⟨e, he, rfl⟩ := List.mem_map.mp h
    unfold getL
    rw [Option.isSome_map, List.find?_isSome]
    exact ⟨e, he, decide_eq_true rfl⟩
/-- a want of a part: there, of a lower rank -/
theorem LOk.want {d : Nat} {L : PL} (h : LOk d L) {n : Str} {p : Prt} (e : getL L n = some p) {w : Bool × Str} (hw : w ∈ p.wants) : (getL L w.2).isSome = true ∧ rkL L w.2 < rkL L n := by
  obtain ⟨i, hi⟩ := getL_some e
  obtain ⟨j, e', hij, hj, en⟩ := h.down i _ hi w hw
  have h1 := getL_at h.nd hj
  rw [en] at h1
  have h2 := rk_at h.nd hj
  have h3 := rk_at h.nd hi
  rw [en] at h2
  refine ⟨by rw [h1]; rfl, ?_⟩
  have hjl := (List.getElem?_eq_some_iff.mp hj).1
  show rkL L w.2 < rkL L (n, p).1
  rw [h2, h3]
  omega
theorem LOk.few {d : Nat} {L : PL} (h : LOk d L) {n : Str} {p : Prt} (e : getL L n = some p) : p.wants.length ≤ rkL L n := by
  obtain ⟨i, hi⟩ := getL_some e
  have hil := (List.getElem?_eq_some_iff.mp hi).1
  have h1 := nodup_len (p.wants.map (·.2)) ((L.drop (i + 1)).map (·.1)) (h.wnd _ (List.mem_of_getElem? hi)) fun x hx => by
    obtain ⟨w, hw, rfl⟩ := List.mem_map.mp hx
    obtain ⟨j, e', hij, hj, en⟩ := h.down i _ hi w hw
    refine List.mem_map.mpr ⟨e', ?_, en⟩
    have : (L.drop (i + 1))[j - (i + 1)]? = some e' := by rw [List.getElem?_drop, show i + 1 + (j - (i + 1)) = j by omega, hj]
    exact List.mem_of_getElem? this
  rw [List.length_map, List.length_map, List.length_drop] at h1
  show _ ≤ rkL L (n, p).1
  rw [rk_at h.nd hi]
  omega
theorem LOk.letN {d : Nat} {L : PL} (h : LOk d L) {n : Str} (e : (getL L n).isSome = true) : n ∈ lets := by
  obtain ⟨x, hx, rfl⟩ := List.mem_map.mp (getL_mem.mp e)
  exact h.let_ x hx
def mkPM (d : Nat) (L : PL) (ys : List Str) : PM := ⟨d, ys, getL L, rkL L⟩
theorem LOk.pm {d : Nat} {L : PL} (h : LOk d L) {ys : List Str} (hp : ys.Perm (L.map (·.1))) : (mkPM d L ys).Ok where
  d1 := h.d1
  d3 := h.d3
  ne := fun z => by
    have z : ys = [] := z
    have := hp.length_eq
    rw [z, List.length_map] at this
    have := h.l1
    simp at *
    omega
  dom := fun n => by
    show n ∈ ys ↔ (getL L n).isSome = true
    rw [getL_mem, hp.mem_iff]
  life := fun n p e => by
    obtain ⟨i, hi⟩ := getL_some e
    exact h.life _ (List.mem_of_getElem? hi)
  rk5 := fun n => by
    show L.length - 1 - _ ≤ 5
    have := h.l6
    omega
  few := fun n p e => h.few e
  nmOk := fun n e => ⟨lets_ok (h.letN e), fun z => by
    have := h.letN e
    rw [z] at this
    exact absurd this (by decide)⟩
  down := fun n p e w hw => h.want e hw
end K94
set_option maxHeartbeats 4000000
/-! the parts are made: walked -/
namespace K94
open PySem PySem.Spec PyProof.Rows L2 StX
/-- the parts in a dict -/
structure FoundAt (K : PySem.W.Frag) (H : Hp) (d : Addr) (L : PL) (kvs : List (Key × V)) : Prop where
  dict : H d = some (.dK kvs)
  keys : kvs.map (·.1) = (L.map (·.1)).map Sum.inr
  vals : ∀ n p, getL L n = some p → ∃ v, valV kvs (Sum.inr n) = some v ∧ PartAt K H v p
  nones : ∀ n, getL L n = none → valV kvs (Sum.inr n) = none
theorem FoundAt.mono {K : PySem.W.Frag} {H H' : Hp} {d : Addr} {L : PL} {kvs : List (Key × V)} (s : Same H H') (h : FoundAt K H d L kvs) : FoundAt K H' d L kvs :=
  ⟨s _ _ h.dict, h.keys, fun n p e => by obtain ⟨v, a, b⟩ := h.vals n p e; exact ⟨v, a, b.mono s⟩, h.nones⟩
/-! ### a list of texts against the empty one -/
theorem canLay_strs : ∀ ns : List Str, (∀ n ∈ ns, PyData.strOk n = true) → PyData.canLayAll0 (ns.map PyData.str) = true
  | [], _ => rfl
  | n :: ns, h => by
    show (PyData.canLay0 (.str n) && PyData.canLayAll0 (ns.map PyData.str)) = true
    rw [canLay_strs ns fun x hx => h x (List.mem_cons_of_mem _ hx), Bool.and_true]
    exact h n List.mem_cons_self
theorem depth_strs : ∀ ns : List Str, PyData.depthAll (ns.map PyData.str) = 0
  | [] => rfl
  | n :: ns => by
    show max (PyData.depth (.str n)) (PyData.depthAll (ns.map PyData.str)) = 0
    rw [depth_strs ns]
    rfl
theorem shaped_strs {ns : List Str} (h : ∀ n ∈ ns, PyData.strOk n = true) : SeqAt.shaped (.list (ns.map PyData.str)) = true := by
  show (PyData.canLayAll0 (ns.map PyData.str) && decide (PyData.depthAll (ns.map PyData.str) + 1 ≤ 64)) = true
  rw [canLay_strs ns h, depth_strs]
  rfl
theorem dpAll_strs {K : PySem.W.Frag} {H : Hp} : ∀ ns : List Str, DpAll K H (ns.map V.str) (ns.map PyData.str)
  | [] => .nil
  | n :: ns => .cons (.str n) (dpAll_strs ns)
theorem eqv_nilS (ns : List Str) : PyData.eqv (.list (ns.map PyData.str)) (.list []) = ns.isEmpty := by
  cases ns with
  | nil => rfl
  | cons n ns => rfl
theorem ne_nilS {K : PySem.W.Frag} {H : Hp} {a b : Addr} {ns : List Str} {Q : VK} (ho : ∀ n ∈ ns, PyData.strOk n = true) (ha : SqL K H a (ns.map V.str)) (hb : SqL K H b []) (q : Q (.bl (!ns.isEmpty)) H) : rNeD K (.ref a) (.ref b) H Q :=
  ⟨.list (ns.map PyData.str), .list [], .lst ha (dpAll_strs ns), .lst hb .nil, shaped_strs ho, rfl, by rw [eqv_nilS]; exact q⟩
section
variable {P : Program} {w : World} {K : PySem.W.Frag} {mg : Str → Option Value} {base : Heap} {f : Addr} {fd : FuncData}
def spAreNamed : Sp := fun vs H Q _ => ∃ (d : Addr) (kvs : List (Key × V)) (ns : List Str), vs = [.ref d] ∧ H d = some (.dK kvs) ∧ kvs.map (·.1) = ns.map Sum.inr ∧ (∀ n ∈ ns, n ∈ lets) ∧ 1 ≤ ns.length ∧ ns.length ≤ 12 ∧ ∀ H', Same H H' → Q (.bl true) H'
theorem ok_are_named (F : FnP K "are_named" "are_named" s_are_named f fd) (T : Txt K mg) (g_is_part_name : GF P w K mg base 1 "is_part_name" P_is_part_name spPartName) : FnOk P w K mg base CX0 2 f fd P_are_named spAreNamed := by
  refine okD F sc_are_named (fun vs H Q E h => ?_) (fun cdv A outer s H vs Q E hr h => ?_)
  · obtain ⟨_, _, _, rfl, _⟩ := h; rfl
  · obtain ⟨d, kvs, ns, rfl, hd, hk, hl, l1, l2, q⟩ := h
    have nd := sc_are_named.nd
    refine ⟨_, pss_cons (ps_if (PW.pt (pw_or (pt_not (pt_val (pe_callB call_isC (by rfl) T.f_isinstance (by decide +kernel) (pa_cons (pv 0) (pa_cons (pe_bltn (v := .ty "dict") rfl T.f_dict boot_dict rfl) pa_nil))))) (pw_or1 (pt_not (pt_chain op_le op_le (pe_int) (pe_callB call_lenD (by rfl) T.f_len (by decide +kernel) (pa_cons (pv 0) pa_nil)) (pe_gi T.i_MOST_PARTS))))))
      (pss_one (ps_ret (pe_bl)))
      (pss_nil))
    (pss_one (ps_ret (pe_callB (cr_all rfl) (by rfl) T.f_all (by decide +kernel) (pa_cons (pe_lock (pe_lc (own := [("name", 1)]) (g := gName 1) rfl nd (pi_keys (pv 0)) (blkOk_by (N := N_are_named) (sc := defScope s_are_named) (own := [("name", 1)]) (by decide +kernel)) (fun _ _ _ _ _ => pg_name (i := 1) nd rfl (Or.inl rfl)) (fun _ _ _ _ _ => pts_nil) (fun _ _ _ _ _ => pe_g g_is_part_name (hr.mono (by decide)) (pa_cons (pv 1) pa_nil)))) pa_nil)))), ?_⟩
    have hlen : kvs.length = ns.length := by have := congrArg List.length hk; rw [List.length_map, List.length_map] at this; exact this
    refine ⟨_, rfl, _, _, _, rfl, isC_dict hd, _, rfl, iteF ⟨_, rfl, _, _, rfl, hd, _, _, rfl, rfl, _, rfl, ?_⟩⟩
    rw [decide_eq_true (show (1 : Int) ≤ (kvs.length : Nat) by omega)]
    refine iteT ⟨_, _, rfl, rfl, _, rfl, ?_⟩
    rw [decide_eq_true (show ((kvs.length : Nat) : Int) ≤ 12 by omega)]
    refine iteF ⟨d, _, hd, True.intro, fun od => ?_⟩
    have k0 : ∀ b o, b ≠ d → H b = some o → upd H d (.frz od (.dK kvs)) b = some o := fun b o hb e => by rw [upd_ne hb]; exact e
    refine ⟨_, rfl, d, od, rfl, .inl ⟨kvs, upd_same, ?_⟩⟩
    intro L hL
    have hLd : L ≠ d := fun z => by rw [z, upd_same] at hL; cases hL
    have hL0 : H L = none := by rw [upd_ne hLd] at hL; exact hL
    refine lc_it walk_keys (fun i H' => H' d = some (.frz od (.dK kvs)) ∧ (∀ b o, b ≠ d → H b = some o → H' b = some o) ∧ H' L = some (.lst ((List.replicate i true).map V.bl)))
      ⟨by rw [upd_ne (Ne.symm hLd), upd_same], fun b o hb e => by rw [upd_ne (ne_of_none e hL0)]; exact k0 b o hb e, upd_same⟩ (fun i H' _ h => h.1) ?_ ?_
    · rintro i x H' H'' hi ⟨h1, h2, h3⟩ ⟨rfl, k, v, hkv, rfl⟩
      have hx : (kvs.map (·.1))[i]? = some k := by rw [List.getElem?_map, hkv]; rfl
      rw [hk, List.getElem?_map] at hx
      obtain ⟨n, hn, rfl⟩ := Option.map_eq_some_iff.mp hx
      refine ⟨rfl, _, rfl, n, rfl, hl n (List.mem_of_getElem? hn), fun H3 s3 => ⟨_, s3 _ _ h3, by rw [List.length_map, List.length_replicate]; exact small1000 (by omega), ?_, fun b o hb e => ?_, ?_⟩⟩
      · rw [upd_ne (Ne.symm hLd)]; exact s3 _ _ h1
      · rw [upd_ne (ne_of_none e hL0)]
        exact s3 _ _ (h2 b o hb e)
      · rw [upd_same, List.replicate_succ', List.map_append]
        rfl
    · rintro H' ⟨h1, h2, h3⟩
      refine ⟨h1, L, List.replicate kvs.length true, rfl, SqL.of (by rw [upd_ne hLd]; exact h3), ?_⟩
      have ha : (List.replicate kvs.length true).all id = true := by rw [List.all_eq_true]; intro x hx; exact (List.mem_replicate.mp hx).2
      rw [ha]
      refine q _ fun b o e => ?_
      by_cases hb : b = d
      · subst hb
        rw [upd_same, ← e, hd]
      · rw [upd_ne hb]
        exact h2 b o hb e
def spFitting (K : PySem.W.Frag) : Sp := fun vs H Q _ => ∃ (dp : Nat) (d : Addr) (L : PL) (kvs : List (Key × V)) (n : Str) (p : Prt), vs = [.int (dp : Nat), .ref d, .str n] ∧ FoundAt K H d L kvs ∧ LOk dp L ∧ getL L n = some p ∧ ∀ H', Same H H' → Q (.bl true) H'
theorem ok_is_fitting (F : FnP K "is_fitting" "is_fitting" s_is_fitting f fd) (T : Txt K mg) (O : OwnC K (CPart K)) (p_Part_life : PR P w K mg base (CPart K) "life" "p_life") (p_Part_wants : PR P w K mg base (CPart K) "wants" "p_wants") : FnOk P w K mg base CX0 3 f fd P_is_fitting (spFitting K) := by
  refine okD F sc_is_fitting (fun vs H Q E h => ?_) (fun cdv A outer s H vs Q E hr h => ?_)
  · obtain ⟨_, _, _, _, _, _, rfl, _⟩ := h; rfl
  · obtain ⟨dp, d, L, kvs, n, p, rfl, fa, lo, hp, q⟩ := h
    have nd := sc_is_fitting.nd
    refine ⟨_, pss_cons (ps_set (i := 3) nd rfl (Or.inl rfl) (pe_dget (hu_of hr) (pv 1) (pv 2) (fun _ _ => rfl)))
    (pss_cons (ps_if (PW.pt (pw_or (pt_not (pt_val (pe_callB call_isC (by rfl) T.f_isinstance (by decide +kernel) (pa_cons (pv 3) (pa_cons (pe_gr T.g_Part) pa_nil))))) (pw_or1 (pt_cmpR op_gt (pe_pr p_Part_life (hr.mono (by decide)) (pv 3)) (pv 0) (nomark _)))))
      (pss_one (ps_ret (pe_bl)))
      (pss_nil))
    (pss_one (ps_ret (pe_callB (cr_all rfl) (by rfl) T.f_all (by decide +kernel) (pa_cons (pe_lc (own := [("way", 4), ("wanted", 5)]) (g := gTup K 2 (gCons (gName 4) (gCons (gName 5) gNil))) rfl nd (pi_tup (pe_pr p_Part_wants (hr.mono (by decide)) (pv 3))) (blkOk_by (N := N_is_fitting) (sc := defScope s_is_fitting) (own := [("way", 4), ("wanted", 5)]) (by decide +kernel)) (fun _ _ _ _ _ => pg_tup rfl (pgs_cons (pg_name (i := 4) nd rfl (Or.inl rfl)) (pgs_cons (pg_name (i := 5) nd rfl (Or.inl rfl)) pgs_nil))) (fun _ _ _ _ _ => pts_nil) (fun _ _ _ _ _ => pe_and (pe_cmpR op_ne (pv 5) (pv 2) (nomark _)) (pe_one (pe_cmp (pc_din (hu_of hr) (pv 5) (pv 1)))))) pa_nil))))), ?_⟩
    obtain ⟨v, hv, ap, dxa, tw, ws, rfl, hap, htw, hws⟩ := fa.vals n p hp
    have hlife : p.life ≤ dp := by
      obtain ⟨i, hi⟩ := getL_some hp
      exact (lo.life _ (List.mem_of_getElem? hi)).2
    have hwl : ws.length ≤ 1000 := by
      rw [Paired.length hws]
      have := lo.few hp
      have h6 := lo.l6
      have : rkL L n ≤ 5 := by show L.length - 1 - _ ≤ 5; omega
      omega
    refine ⟨_, rfl, _, rfl, _, _, rfl, dget_s' fa.dict hv, _, rfl, _, _, _, rfl, isC_own O T.c_Part hap, _, rfl, iteF ⟨_, rfl, _, _, _, _, rfl, hap, lk_Part_p_life, _, rfl, _, _, rfl, rfl, _, rfl, ?_⟩⟩
    rw [decide_eq_false (show ¬ p.life > (dp : Nat) by omega)]
    refine iteF ⟨_, rfl, _, _, _, _, rfl, hap, lk_Part_p_wants, tw, rfl, ⟨ws, SqT.of htw⟩, fun L2 hL => ?_⟩
    refine lc_it (walk_tup (K := K) (a := tw) (xs := ws)) (fun i H' => Same H H' ∧ H' L2 = some (.lst ((List.replicate i true).map V.bl))) ⟨Same.new hL, upd_same⟩ (fun i H' _ h => SqT.of (h.1 _ _ htw)) ?_ ?_
    · rintro i x H' H'' hi ⟨h1, h2⟩ ⟨rfl, hx⟩
      obtain ⟨wt, hwt, aw, rfl, haw⟩ := Paired.get hws hx
      have hwm := List.mem_of_getElem? hwt
      obtain ⟨hs, hrk⟩ := lo.want hp hwm
      have hne : wt.2 ≠ n := fun z => by rw [z] at hrk; omega
      obtain ⟨pw, hpw⟩ := some_of hs
      obtain ⟨vw, hvw, _⟩ := fa.vals _ _ hpw
      refine ⟨aw, _, rfl, SqT.of (h1 _ _ haw), rfl, _, _, rfl, _, _, rfl, rfl, rfl, _, rfl, _, rfl, rfl, _, rfl, ?_⟩
      rw [decide_eq_false (show ¬ V.str wt.2 = V.str n from fun z => hne (str_iff.mp z))]
      refine iteT ⟨_, rfl, _, rfl, _, _, rfl, dget_s' (h1 _ _ fa.dict) hvw, _, h2, by rw [List.length_map, List.length_replicate]; exact small1000 (by omega), fun b o e => ?_, ?_⟩
      · rw [upd_ne (ne_of_none e hL)]
        exact h1 b o e
      · rw [upd_same, List.replicate_succ', List.map_append]
        rfl
    · rintro H2 ⟨h1, h2⟩
      refine ⟨L2, List.replicate ws.length true, rfl, SqL.of h2, ?_⟩
      have ha : (List.replicate ws.length true).all id = true := by rw [List.all_eq_true]; intro x hx; exact (List.mem_replicate.mp hx).2
      rw [ha]
      exact q _ h1
end
end K94
set_option maxHeartbeats 4000000
/-! what a part wants, far; the parts are made -/
namespace K94
open PySem PySem.Spec PyProof.Rows L2 StX
section
variable {P : Program} {w : World} {K : PySem.W.Frag} {mg : Str → Option Value} {base : Heap} {f : Addr} {fd : FuncData}
def spWantedBy (K : PySem.W.Frag) : Sp := fun vs H Q _ => ∃ (dp : Nat) (d : Addr) (L : PL) (kvs : List (Key × V)) (n : Str) (p : Prt), vs = [.ref d, .str n] ∧ FoundAt K H d L kvs ∧ LOk dp L ∧ getL L n = some p ∧
  ∀ D H' fs, Same H H' → H D = none → H' D = some (.dK (fsS fs)) → n ∉ fs → Q (.ref D) H'
theorem ok_wanted_by (F : FnP K "wanted_by" "wanted_by" s_wanted_by f fd) (T : Txt K mg) (p_Part_wants : PR P w K mg base (CPart K) "wants" "p_wants") : FnOk P w K mg base CX0 3 f fd P_wanted_by (spWantedBy K) := by
  refine okD F sc_wanted_by (fun vs H Q E h => ?_) (fun cdv A outer s H vs Q E hr h => ?_)
  · obtain ⟨_, _, _, _, _, _, rfl, _⟩ := h; rfl
  · obtain ⟨dp, d, L, kvs, n, p, rfl, fa, lo, hp, q⟩ := h
    have nd := sc_wanted_by.nd
    refine ⟨_, pss_cons (ps_par (i := 2) (j := 3) (by rfl) nd rfl rfl (by decide) rfl rfl (pa_cons (pe_dnewK) (pa_cons (pe_lc (own := [("way", 5), ("wanted", 4)]) (g := gTup K 2 (gCons (gName 5) (gCons (gName 4) gNil))) rfl nd (pi_tup (pe_pr p_Part_wants (hr.mono (by decide)) (pe_dget (hu_of hr) (pv 0) (pv 1) (fun _ _ => rfl)))) (blkOk_by (N := N_wanted_by) (sc := defScope s_wanted_by) (own := [("way", 5), ("wanted", 4)]) (by decide +kernel)) (fun _ _ _ _ _ => pg_tup rfl (pgs_cons (pg_name (i := 5) nd rfl (Or.inl rfl)) (pgs_cons (pg_name (i := 4) nd rfl (Or.inl rfl)) pgs_nil))) (fun _ _ _ _ _ => pts_nil) (fun _ _ _ _ _ => pv 4)) pa_nil)) (by rfl))
    (pss_cons (ps_while PassesOwn.never (pt_cmpR (op_neD hr.units) (pv 3) (pe_lst (pa_nil)) (nomark _))
      (pss_cons (ps_set (i := 4) nd rfl (Or.inl rfl) (pe_bm0 PySem.F.plainAttrs_list PySem.F.slot_list_pop PySem.F.type_list_pop mt_pop (pv 3)))
      (pss_one (ps_if (pt_cmp (pc_dnotin (hu_of hr) (pv 4) (pv 2)))
        (pss_cons (ps_dput (hu_of hr) (pv 2) (pv 4) (pe_bl) rfl)
        (pss_one (ps_set (i := 3) nd rfl (Or.inl rfl) (pe_op op_cat (pv 3) (pe_lc (own := [("way", 5), ("other", 6)]) (g := gTup K 2 (gCons (gName 5) (gCons (gName 6) gNil))) rfl nd (pi_tup (pe_pr p_Part_wants (hr.mono (by decide)) (pe_dget (hu_of hr) (pv 0) (pv 4) (fun _ _ => rfl)))) (blkOk_by (N := N_wanted_by) (sc := defScope s_wanted_by) (own := [("way", 5), ("other", 6)]) (by decide +kernel)) (fun _ _ _ _ _ => pg_tup rfl (pgs_cons (pg_name (i := 5) nd rfl (Or.inl rfl)) (pgs_cons (pg_name (i := 6) nd rfl (Or.inl rfl)) pgs_nil))) (fun _ _ _ _ _ => pts_nil) (fun _ _ _ _ _ => pv 6))))))
        (pss_nil)))))
    (pss_one (ps_ret (pv 2)))), ?_⟩
    have h6 := lo.l6
    have hwl : ∀ {n : Str} {p : Prt}, getL L n = some p → p.wants.length ≤ 5 := fun {n p} e => by
      have h1 := lo.few e
      have h2 : rkL L n ≤ 5 := by show L.length - 1 - _ ≤ 5; omega
      omega
    -- known, left
    intro D nD
    have s0 : Same H (upd H D (.dK [])) := Same.new nD
    have hD0 : (upd H D (.dK [])) D = some (.dK []) := upd_same
    generalize upd H D (.dK []) = H1 at s0 hD0 ⊢
    have fa1 := fa.mono s0
    obtain ⟨v, hv, ap, dxa, tw, ws, rfl, hap, htw, hws⟩ := fa1.vals n p hp
    refine ⟨_, rfl, _, rfl, _, _, rfl, dget_s' fa1.dict hv, _, _, _, _, rfl, hap, lk_Part_p_wants, tw, rfl, ⟨ws, SqT.of htw⟩, fun L0 hL0 => ?_⟩
    have nDL : D ≠ L0 := fun z => by rw [z, hL0] at hD0; cases hD0
    have nH0 : H L0 = none := s0.free hL0
    refine lc_it (walk_tup (K := K) (a := tw) (xs := ws)) (fun i H' => Same H1 H' ∧ H' L0 = some (.lst (((p.wants.take i).map (·.2)).map V.str))) ⟨Same.new hL0, upd_same⟩ (fun i H' _ h => SqT.of (h.1 _ _ htw)) ?_ ?_
    · rintro i x H' H'' hi ⟨h1, h2⟩ ⟨rfl, hx⟩
      obtain ⟨wt, hwt, aw, rfl, haw⟩ := Paired.get hws hx
      refine ⟨aw, _, rfl, SqT.of (h1 _ _ haw), rfl, _, _, rfl, _, _, rfl, rfl, rfl, _, rfl, _, h2, ?_, fun b o e => ?_, ?_⟩
      · rw [List.length_map, List.length_map, List.length_take]
        exact small1000 (by have := hwl hp; omega)
      · rw [upd_ne (ne_of_none e hL0)]
        exact h1 b o e
      · rw [upd_same, List.take_add_one, hwt, List.map_append, List.map_append]
        rfl
    · rintro H2 ⟨h1, h2⟩
      rw [Paired.length hws, List.take_length] at h2
      refine ⟨_, _, rfl, ?_⟩
      refine ⟨fun m σ H' => ∃ (lv : Addr) (v4 : Option V) (ns fs : List Str), σ = [some (.ref d), some (.str n), some (.ref D), some (.ref lv), v4, none, none] ∧ Same H H' ∧ H' D = some (.dK (fsS fs)) ∧ H' lv = some (.lst (ns.map V.str)) ∧ D ≠ lv ∧ H lv = none ∧
          (∀ k ∈ ns, (getL L k).isSome = true ∧ rkL L k < rkL L n) ∧ fs.Nodup ∧ (∀ k ∈ fs, (getL L k).isSome = true ∧ rkL L k < rkL L n) ∧ m = (L.length - fs.length) * 6 + ns.length ∧ m ≤ 1000, ?_, ?_⟩
      · refine ⟨_, L0, none, p.wants.map (·.2), [], rfl, s0.trans h1, h1 _ _ hD0, h2, nDL, nH0, fun k hk => ?_, List.nodup_nil, (fun k hk => by cases hk), rfl, ?_⟩
        · obtain ⟨w, hw, rfl⟩ := List.mem_map.mp hk
          exact lo.want hp hw
        · rw [List.length_map]
          have := hwl hp
          simp only [List.length_nil, Nat.sub_zero]
          omega
      · rintro m σ H' ⟨lv, v4, ns, fs, rfl, sm, hD, hlv, nDl, nlv, i1, i2, i3, rfl, hm⟩
        refine ⟨_, rfl, Nat.zero_le _, fun p0 hp0 => ?_⟩
        have s2 : Same H' (upd H' p0 (.lst [])) := Same.new hp0
        have hlv2 := s2 _ _ hlv
        have hD2 := s2 _ _ hD
        refine ne_nilS (ns := ns) (fun k hk => lets_ok (lo.letN (i1 k hk).1)) (SqL.of hlv2) (SqL.of upd_same) ⟨_, rfl, ?_⟩
        have sm2 := sm.trans s2
        generalize upd H' p0 (.lst []) = H3 at *
        rcases List.eq_nil_or_concat ns with rfl | ⟨ini, k, rfl⟩
        · exact iteF ⟨_, rfl, q D H3 fs sm2 nD hD2 fun z => by have := (i3 n z).2; omega⟩
        · rw [List.concat_eq_append] at *
          have hne : (!(ini ++ [k]).isEmpty) = true := by cases ini <;> rfl
          rw [hne]
          obtain ⟨hks, hkr⟩ := i1 k (List.mem_append_right _ (List.mem_singleton.mpr rfl))
          have hkm := getL_mem.mp hks
          obtain ⟨pk, hpk⟩ := some_of hks
          have einit : (ini ++ [k]).map V.str = ini.map V.str ++ [.str k] := by rw [List.map_append]; rfl
          rw [einit] at hlv2
          have hlen : (ini ++ [k]).length = ini.length + 1 := by rw [List.length_append, List.length_singleton]
          rw [hlen] at hm
          refine iteT ⟨fun σ' H'' => ∃ m', m' < (L.length - fs.length) * 6 + (ini ++ [k]).length ∧ ∃ (lv : Addr) (v4 : Option V) (ns fs : List Str), σ' = [some (.ref d), some (.str n), some (.ref D), some (.ref lv), v4, none, none] ∧ Same H H'' ∧ H'' D = some (.dK (fsS fs)) ∧ H'' lv = some (.lst (ns.map V.str)) ∧ D ≠ lv ∧ H lv = none ∧
            (∀ k ∈ ns, (getL L k).isSome = true ∧ rkL L k < rkL L n) ∧ fs.Nodup ∧ (∀ k ∈ fs, (getL L k).isSome = true ∧ rkL L k < rkL L n) ∧ m' = (L.length - fs.length) * 6 + ns.length ∧ m' ≤ 1000, fun _ _ z => z, ?_⟩
          refine ⟨_, rfl, .inl ⟨rfl, _, SqL.of hlv2⟩, _, _, .str k, rfl, rfl, hlv2, by rw [List.length_append, List.length_singleton]; simp, ?_⟩
          rw [List.dropLast_concat]
          have s3 : Same H (upd H3 lv (.lst (ini.map V.str))) := fun b o e => by rw [upd_ne (ne_of_none e nlv)]; exact sm2 b o e
          have hD3 : (upd H3 lv (.lst (ini.map V.str))) D = some (.dK (fsS fs)) := by rw [upd_ne nDl]; exact hD2
          have hlv3 : (upd H3 lv (.lst (ini.map V.str))) lv = some (.lst (ini.map V.str)) := upd_same
          generalize upd H3 lv (.lst (ini.map V.str)) = H4 at *
          refine ⟨_, rfl, _, rfl, _, _, rfl, dget_s hD3, _, rfl, ?_⟩
          rw [fsS_get]
          by_cases hin : k ∈ fs
          · rw [if_pos hin]
            refine iteF ⟨_, ?_, lv, _, ini, fs, rfl, s3, hD3, hlv3, nDl, nlv, fun k hk => i1 k (List.mem_append_left _ hk), i2, i3, rfl, ?_⟩
            · rw [hlen]; omega
            · omega
          · rw [if_neg hin]
            have hfn : (fs ++ [k]).Nodup := List.nodup_append.mpr ⟨i2, List.nodup_cons.mpr ⟨List.not_mem_nil, List.nodup_nil⟩, fun a ha b hb z => hin (by rw [List.mem_singleton.mp hb] at z; rw [← z]; exact ha)⟩
            have hfl : (fs ++ [k]).length ≤ L.length := by
              have := nodup_len (fs ++ [k]) (L.map (·.1)) hfn fun x hx => by
                rcases List.mem_append.mp hx with z | z
                · exact getL_mem.mp (i3 x z).1
                · rw [List.mem_singleton.mp z]; exact hkm
              rw [List.length_map] at this
              exact this
            rw [List.length_append, List.length_singleton] at hfl
            refine iteT ⟨_, rfl, _, rfl, _, _, rfl, DPut.k (k := Sum.inr k) hD3 (by rw [fsS_len]; exact small1000 (by omega)), ?_⟩
            rw [fsS_put hin]
            have s4 : Same H (upd H4 D (.dK (fsS (fs ++ [k])))) := fun b o e => by rw [upd_ne (ne_of_none e nD)]; exact s3 b o e
            have hD4 : (upd H4 D (.dK (fsS (fs ++ [k])))) D = some (.dK (fsS (fs ++ [k]))) := upd_same
            have hlv4 : (upd H4 D (.dK (fsS (fs ++ [k])))) lv = some (.lst (ini.map V.str)) := by rw [upd_ne (Ne.symm nDl)]; exact hlv3
            generalize upd H4 D (.dK (fsS (fs ++ [k]))) = H5 at *
            have fa5 := fa.mono s4
            obtain ⟨v, hv, ap, dxa, tw, ws, rfl, hap, htw, hws⟩ := fa5.vals k pk hpk
            refine ⟨_, rfl, _, rfl, _, rfl, _, _, rfl, dget_s' fa5.dict hv, _, _, _, _, rfl, hap, lk_Part_p_wants, tw, rfl, ⟨ws, SqT.of htw⟩, fun L2 hL2 => ?_⟩
            have nL2 : H L2 = none := s4.free hL2
            refine lc_it (walk_tup (K := K) (a := tw) (xs := ws)) (fun i H' => Same H5 H' ∧ H' L2 = some (.lst (((pk.wants.take i).map (·.2)).map V.str))) ⟨Same.new hL2, upd_same⟩ (fun i H' _ h => SqT.of (h.1 _ _ htw)) ?_ ?_
            · rintro i x H' H'' hi ⟨h1, h2⟩ ⟨rfl, hx⟩
              obtain ⟨wt, hwt, aw, rfl, haw⟩ := Paired.get hws hx
              refine ⟨aw, _, rfl, SqT.of (h1 _ _ haw), rfl, _, _, rfl, _, _, rfl, rfl, rfl, _, rfl, _, h2, ?_, fun b o e => ?_, ?_⟩
              · rw [List.length_map, List.length_map, List.length_take]
                exact small1000 (by have := hwl hpk; omega)
              · rw [upd_ne (ne_of_none e hL2)]
                exact h1 b o e
              · rw [upd_same, List.take_add_one, hwt, List.map_append, List.map_append]
                rfl
            · rintro H6 ⟨h1, h2⟩
              rw [Paired.length hws, List.take_length] at h2
              have hw5 := hwl hpk
              refine ⟨_, _, _, _, rfl, rfl, h1 _ _ hlv4, h2, by rw [List.length_map, List.length_map, List.length_map]; rw [sizeLine_eq]; omega, fun lw hlw => ?_⟩
              have s5 : Same H6 (upd H6 lw (.lst (ini.map V.str ++ (pk.wants.map (·.2)).map V.str))) := Same.new hlw
              have hap : ini.map V.str ++ (pk.wants.map (·.2)).map V.str = (ini ++ pk.wants.map (·.2)).map V.str := by rw [List.map_append]
              have hla : (ini ++ pk.wants.map (·.2)).length = ini.length + pk.wants.length := by rw [List.length_append, List.length_map]
              have hfa : (fs ++ [k]).length = fs.length + 1 := by rw [List.length_append, List.length_singleton]
              refine ⟨_, ?_, lw, _, ini ++ pk.wants.map (·.2), fs ++ [k], rfl, (s4.trans h1).trans s5, s5 _ _ (h1 _ _ hD4), by rw [upd_same, hap], ne_of_none (h1 _ _ hD4) hlw, (s4.trans h1).free hlw, fun k' hk' => ?_, hfn, fun k' hk' => ?_, rfl, ?_⟩
              · rw [hlen, hla, hfa]; omega
              · rcases List.mem_append.mp hk' with z | z
                · exact i1 k' (List.mem_append_left _ z)
                · obtain ⟨w, hw, rfl⟩ := List.mem_map.mp z
                  have := lo.want hpk hw
                  exact ⟨this.1, by omega⟩
              · rcases List.mem_append.mp hk' with z | z
                · exact i3 k' z
                · rw [List.mem_singleton.mp z]; exact ⟨hks, hkr⟩
              · rw [hla, hfa]
                omega
end
end K94
set_option maxHeartbeats 4000000
/-! the parts are made: the init -/
namespace K94
open PySem PySem.Spec PyProof.Rows L2 StX
def prD (kvs : List (Key × V)) (l : List Str) : List (Key × V) := l.map fun n => (Sum.inr n, (valV kvs (Sum.inr n)).getD .non)
theorem prD_get (kvs : List (Key × V)) (l : List Str) (k : Str) : valV (prD kvs l) (Sum.inr k) = if k ∈ l then some ((valV kvs (Sum.inr k)).getD .non) else none := by
  induction l with
  | nil => rfl
  | cons a l ih =>
    have e : prD kvs (a :: l) = (Sum.inr a, (valV kvs (Sum.inr a)).getD .non) :: prD kvs l := rfl
    rw [e]
    by_cases q : a = k
    · rw [valV_pos (by show (Sum.inr a : Key) = Sum.inr k; rw [q]), if_pos (by rw [q]; exact List.mem_cons_self), q]
    · rw [valV_neg fun z => q (Sum.inr.inj z), ih]
      by_cases z : k ∈ l
      · rw [if_pos z, if_pos (List.mem_cons_of_mem _ z)]
      · rw [if_neg z, if_neg fun u => (List.mem_cons.mp u).elim (fun v => q v.symm) z]
theorem prD_put {kvs : List (Key × V)} {l : List Str} {k : Str} {v : V} (h : k ∉ l) (e : valV kvs (Sum.inr k) = some v) : putK (prD kvs l) (Sum.inr k) v = prD kvs (l ++ [k]) := by
  rw [putK_new _ (by rw [prD_get, if_neg h])]
  unfold prD
  rw [List.map_append]
  show _ ++ [_] = _ ++ [(Sum.inr k, (valV kvs (Sum.inr k)).getD .non)]
  rw [e]
  rfl
theorem prD_keys (kvs : List (Key × V)) (l : List Str) : (prD kvs l).map (·.1) = l.map Sum.inr := by unfold prD; rw [List.map_map]; rfl
section
variable {P : Program} {w : World} {K : PySem.W.Frag} {mg : Str → Option Value} {base : Heap} {f : Addr} {fd : FuncData}
def spPartsInit (K : PySem.W.Frag) : Sp := fun vs H Q _ => ∃ (x dx : Addr) (dp : Nat) (d : Addr) (L : PL) (kvs : List (Key × V)) (H0 : Hp), vs = [.ref x, .int (dp : Nat), .ref d] ∧ Same H0 H ∧ H0 x = none ∧ H x = some (.ins (CParts K) dx []) ∧ FoundAt K H0 d L kvs ∧ LOk dp L ∧
  ∀ H' (ys : List Str) gd kvs', Same H0 H' → ys.Perm (L.map (·.1)) → PartsAt K H' x (mkPM dp L ys) dx gd kvs' → Q .non H'
theorem ok_Parts___init__ (F : FnP K "__init__" "Parts.__init__" s_Parts___init__ f fd) (T : Txt K mg) (g_is_number : GF P w K mg base 1 "is_number" P_is_number spIsNumber) (g_are_named : GF P w K mg base 2 "are_named" P_are_named spAreNamed)
    (g_is_fitting : GF P w K mg base 3 "is_fitting" P_is_fitting (spFitting K)) (g_wanted_by : GF P w K mg base 3 "wanted_by" P_wanted_by (spWantedBy K)) : FnOk P w K mg base CX0 5 f fd P_Parts___init__ (spPartsInit K) := by
  refine okD F sc_Parts___init__ (fun vs H Q E h => ?_) (fun cdv A outer s H vs Q E hr h => ?_)
  · obtain ⟨_, _, _, _, _, _, _, rfl, _⟩ := h; rfl
  · obtain ⟨x, dx, dp, d, L, kvs, H0, rfl, sm, nx, hx, fa0, lo, q⟩ := h
    have nd := sc_Parts___init__.nd
    refine ⟨_, pss_cons (ps_if (PW.pt (pw_or (pt_not (pt_val (pe_g g_is_number (hr.mono (by decide)) (pa_cons (pv 1) pa_nil)))) (pw_or1 (pt_not (pt_chain op_le op_le (pe_int) (pv 1) (pe_gi T.i_MOST_DEPTH))))))
      (pss_never)
      (pss_nil))
    (pss_cons (ps_if (pt_not (pt_val (pe_g g_are_named (hr.mono (by decide)) (pa_cons (pv 2) pa_nil))))
      (pss_never)
      (pss_nil))
    (pss_cons (ps_for PassesOwn.never rfl (pi_list (pe_callB (call_sortedD rfl) (by rfl) T.f_sorted (by decide +kernel) (pa_cons (pv 2) pa_nil))) (pg_name (i := 3) nd rfl (Or.inl rfl))
      (pss_one (ps_if (pt_not (pt_val (pe_g g_is_fitting (hr.mono (by decide)) (pa_cons (pv 1) (pa_cons (pv 2) (pa_cons (pv 3) pa_nil))))))
        (pss_never)
        (pss_nil))))
    (pss_cons (ps_for PassesOwn.never rfl (pi_list (pe_callB (call_sortedD rfl) (by rfl) T.f_sorted (by decide +kernel) (pa_cons (pv 2) pa_nil))) (pg_name (i := 3) nd rfl (Or.inl rfl))
      (pss_one (ps_if (pt_cmp (pc_din (hu_of hr) (pv 3) (pe_g g_wanted_by (hr.mono (by decide)) (pa_cons (pv 2) (pa_cons (pv 3) pa_nil)))))
        (pss_never)
        (pss_nil))))
    (pss_cons (ps_f (pv 0) (pv 1) T.c_Parts T.n_Parts_g_depth)
    (pss_one (ps_f (pv 0) (pe_dc (own := [("name", 3)]) (g := gName 3) rfl nd (pi_list (pe_callB (call_sortedD rfl) (by rfl) T.f_sorted (by decide +kernel) (pa_cons (pv 2) pa_nil))) (blkOk_by (N := N_Parts___init__) (sc := defScope s_Parts___init__) (own := [("name", 3)]) (by decide +kernel)) (fun _ _ _ _ _ => pg_name (i := 3) nd rfl (Or.inl rfl)) (fun _ _ _ _ _ => pts_nil) (fun _ _ _ _ _ => pv 3) (fun _ _ _ _ _ => pe_dget (hu_of hr) (pv 2) (pv 3) (fun _ _ => rfl))) T.c_Parts T.n_Parts_g_parts)))))), ?_⟩
    have h6 := lo.l6
    have h1 := lo.l1
    have d1 := lo.d1
    have d3 := lo.d3
    have fa := fa0.mono sm
    have hnl : (L.map (·.1)).length = L.length := List.length_map _
    refine ⟨_, rfl, _, rfl, _, rfl, iteF ⟨_, rfl, _, _, rfl, rfl, _, rfl, ?_⟩⟩
    rw [decide_eq_true (show (1 : Int) ≤ (dp : Nat) by omega)]
    refine iteT ⟨_, _, rfl, rfl, _, rfl, ?_⟩
    rw [decide_eq_true (show ((dp : Nat) : Int) ≤ 3 by omega)]
    refine iteF ⟨_, rfl, d, kvs, L.map (·.1), rfl, fa.dict, fa.keys, fun n hn => ?_, by omega, by omega, fun H1 s1 => ⟨_, rfl, iteF ?_⟩⟩
    · obtain ⟨e, he, rfl⟩ := List.mem_map.mp hn
      exact lo.let_ e he
    have fa1 := fa.mono s1
    refine ⟨_, rfl, d, kvs, L.map (·.1), rfl, .inl fa1.dict, fa1.keys, by omega, fun ys p hp _ hn => ?_⟩
    have s2 : Same H1 (upd H1 p (.lst (ys.map V.str))) := Same.new hn
    have hp2 : (upd H1 p (.lst (ys.map V.str))) p = some (.lst (ys.map V.str)) := upd_same
    generalize upd H1 p (.lst (ys.map V.str)) = H2 at s2 hp2 ⊢
    refine ⟨p, rfl, ⟨_, SqL.of hp2⟩, for_list (K := K) (a := p) (xs := ys.map V.str) (fun i σ H' => ∃ v3, σ = [some (.ref x), some (.int (dp : Nat)), some (.ref d), v3] ∧ Same H2 H') ⟨none, rfl, fun _ _ e => e⟩ (fun i σ H' _ ⟨_, _, s⟩ => SqL.of (s _ _ hp2)) ?_ ?_⟩
    · rintro i y σ H' hi ⟨v3, rfl, s⟩
      rw [List.getElem?_map] at hi
      obtain ⟨n, hni, rfl⟩ := Option.map_eq_some_iff.mp hi
      obtain ⟨pr, hpr⟩ := some_of (getL_mem.mpr (hp.mem_iff.mp (List.mem_of_getElem? hni)))
      exact ⟨_, rfl, _, rfl, _, rfl, dp, d, L, kvs, n, pr, rfl, fa1.mono (s2.trans s), lo, hpr, fun H3 s3 => ⟨_, rfl, iteF ⟨_, rfl, s.trans s3⟩⟩⟩
    · rintro σ H3 ⟨v3, rfl, s3⟩
      have fa3 := fa1.mono (s2.trans s3)
      refine ⟨_, rfl, d, kvs, L.map (·.1), rfl, .inl fa3.dict, fa3.keys, by omega, fun ys2 p2 hp2' _ hn2 => ?_⟩
      have s4 : Same H3 (upd H3 p2 (.lst (ys2.map V.str))) := Same.new hn2
      have hp4 : (upd H3 p2 (.lst (ys2.map V.str))) p2 = some (.lst (ys2.map V.str)) := upd_same
      generalize upd H3 p2 (.lst (ys2.map V.str)) = H4 at s4 hp4 ⊢
      refine ⟨p2, rfl, ⟨_, SqL.of hp4⟩, for_list (K := K) (a := p2) (xs := ys2.map V.str) (fun i σ H' => ∃ v3, σ = [some (.ref x), some (.int (dp : Nat)), some (.ref d), v3] ∧ Same H4 H') ⟨_, rfl, fun _ _ e => e⟩ (fun i σ H' _ ⟨_, _, s⟩ => SqL.of (s _ _ hp4)) ?_ ?_⟩
      · rintro i y σ H' hi ⟨v3, rfl, s⟩
        rw [List.getElem?_map] at hi
        obtain ⟨n, hni, rfl⟩ := Option.map_eq_some_iff.mp hi
        obtain ⟨pr, hpr⟩ := some_of (getL_mem.mpr (hp2'.mem_iff.mp (List.mem_of_getElem? hni)))
        refine ⟨_, rfl, _, rfl, _, rfl, dp, d, L, kvs, n, pr, rfl, fa3.mono (s4.trans s), lo, hpr, fun D H5 fs s5 _ hD hnin => ⟨_, _, rfl, dget_s hD, _, rfl, ?_⟩⟩
        rw [fsS_get, if_neg hnin]
        exact iteF ⟨_, rfl, s.trans s5⟩
      · rintro σ H5 ⟨v3', rfl, s5⟩
        have s05 : Same H H5 := s1.trans (s2.trans (s3.trans (s4.trans s5)))
        have i0 : Ini (CParts K) H0 H5 x dx [] [] := Ini.start (sm.trans s05) nx (s05 _ _ hx)
        have i1 := i0.store (putF "g_depth" (.int (dp : Nat)) [])
        refine ⟨_, rfl, _, rfl, _, _, _, rfl, i0.self, ln_Parts_0, ?_⟩
        generalize upd H5 x (.ins (CParts K) dx (putF "g_depth" (.int (dp : Nat)) [])) = H6 at i1 ⊢
        have fa6 := fa0.mono i1.same
        refine ⟨_, rfl, d, kvs, L.map (·.1), rfl, .inl fa6.dict, fa6.keys, by omega, fun ys3 p3 hp3 _ hn3 => ?_⟩
        have i2 := i1.alloc (.lst (ys3.map V.str)) hn3
        have hp7 : (upd H6 p3 (.lst (ys3.map V.str))) p3 = some (.lst (ys3.map V.str)) := upd_same
        generalize upd H6 p3 (.lst (ys3.map V.str)) = H7 at i2 hp7 ⊢
        refine ⟨p3, rfl, ⟨_, SqL.of hp7⟩, fun gd hgd => ?_⟩
        have hnd3 : ys3.Nodup := hp3.nodup_iff.mpr lo.nd
        have hl3 : ys3.length = L.length := by rw [hp3.length_eq, hnl]
        have ngp : gd ≠ p3 := fun z => by rw [z, hp7] at hgd; cases hgd
        refine dc_it (walk_list (K := K) (a := p3) (xs := ys3.map V.str)) (fun i H' => H' = upd H7 gd (.dK (prD kvs (ys3.take i)))) rfl (fun i H' _ h => by rw [h]; exact SqL.of (by rw [upd_ne (Ne.symm ngp)]; exact hp7)) ?_ ?_
        · rintro i y H' H'' hi h0 ⟨e2, hy⟩
          rw [List.getElem?_map] at hy
          obtain ⟨n, hni, rfl⟩ := Option.map_eq_some_iff.mp hy
          obtain ⟨pr, hpr⟩ := some_of (getL_mem.mpr (hp3.mem_iff.mp (List.mem_of_getElem? hni)))
          rw [e2, h0]
          have fa8 : FoundAt K (upd H7 gd (.dK (prD kvs (ys3.take i)))) d L kvs := (fa0.mono i2.same).mono (Same.new hgd)
          obtain ⟨v, hv, _⟩ := fa8.vals n pr hpr
          refine ⟨rfl, _, rfl, _, rfl, _, rfl, _, _, rfl, dget_s' fa8.dict hv, _, Sum.inr n, rfl, upd_same, ?_, ?_⟩
          · unfold prD
            rw [List.length_map, List.length_take]
            exact small1000 (by omega)
          · rw [upd_upd, prD_put (nodup_take hnd3 hni) hv]
            congr 2
            rw [List.take_add_one, hni]
            rfl
        · rintro H' h0
          rw [List.length_map, List.take_length] at h0
          have i3 := i2.alloc (.dK (prD kvs ys3)) hgd
          rw [h0]
          generalize upd H7 gd (.dK (prD kvs ys3)) = H8 at i3 ⊢
          refine ⟨_, rfl, _, _, _, rfl, i3.self, ln_Parts_1, ?_⟩
          have i4 := i3.store (putF "g_parts" (.ref gd) (putF "g_depth" (.int (dp : Nat)) []))
          generalize upd H8 x (.ins (CParts K) dx (putF "g_parts" (.ref gd) (putF "g_depth" (.int (dp : Nat)) []))) = H9 at i4 ⊢
          rw [mk_Parts] at i4
          have fa9 := fa0.mono i4.same
          refine q H9 ys3 gd (prD kvs ys3) i4.same hp3 ⟨i4.self, i4.at_ (gd, .dK (prD kvs ys3)) (.head _), prD_keys _ _, fun n pr e => ?_, fun n e => ?_⟩
          · obtain ⟨v, hv, hat⟩ := fa9.vals n pr e
            refine ⟨v, ?_, hat⟩
            rw [prD_get, if_pos (hp3.mem_iff.mpr (getL_mem.mp (by show (getL L n).isSome = true; rw [show getL L n = some pr from e]; rfl))), hv]
            rfl
          · rw [prD_get, if_neg fun z => ?_]
            have := getL_mem.mpr (hp3.mem_iff.mp z)
            rw [show getL L n = none from e] at this
            cases this
end
end K94
set_option maxHeartbeats 4000000
/-! the draw of the law -/
namespace K94
open PySem PySem.Spec PyProof.Rows L2 StX
def drD (wl cl : Addr) (r t : Int) : List (Key × V) := [(Sum.inr "wide", .ref wl), (Sum.inr "cells", .ref cl), (Sum.inr "rest", .int r), (Sum.inr "turn", .int t)]
/-- the draw at D; wl: its list of wide numbers; n: so many draws may still come -/
def DrawAt (H : Hp) (D wl cl : Addr) (n : Nat) : Prop := ∃ (ws cs : List Int) (r t : Int), H D = some (.dK (drD wl cl r t)) ∧ H wl = some (.lst (ws.map V.int)) ∧ H cl = some (.lst (cs.map V.int)) ∧ cl ≠ wl ∧ (∀ w ∈ ws, 0 ≤ w) ∧ (∀ c ∈ cs, 0 ≤ c ∧ c < 2147483629) ∧ 0 ≤ r ∧ 0 ≤ t ∧ t + n ≤ 100000000000000
/-- all but the draw stays -/
def Keep (D wl : Addr) (H H' : Hp) : Prop := ∀ b o, b ≠ D → b ≠ wl → H b = some o → H' b = some o
theorem Keep.refl (D wl : Addr) (H : Hp) : Keep D wl H H := fun _ _ _ _ h => h
theorem Keep.trans {D wl : Addr} {H H1 H2 : Hp} (a : Keep D wl H H1) (b : Keep D wl H1 H2) : Keep D wl H H2 := fun x o h1 h2 e => b x o h1 h2 (a x o h1 h2 e)
theorem Same.keep {D wl : Addr} {H H' : Hp} (s : Same H H') : Keep D wl H H' := fun b o _ _ e => s b o e
theorem DrawAt.mono {H H' : Hp} {D wl cl : Addr} {n : Nat} (h : DrawAt H D wl cl n) (s : Same H H') : DrawAt H' D wl cl n := by
  obtain ⟨ws, cs, r, t, h1, h2, h3, h4⟩ := h
  exact ⟨ws, cs, r, t, s _ _ h1, s _ _ h2, s _ _ h3, h4⟩
theorem DrawAt.less {H : Hp} {D wl cl : Addr} {n m : Nat} (h : DrawAt H D wl cl n) (q : m ≤ n) : DrawAt H D wl cl m := by
  obtain ⟨ws, cs, r, t, h1, h2, h3, h4, h5, h6, h7, h8, h9⟩ := h
  exact ⟨ws, cs, r, t, h1, h2, h3, h4, h5, h6, h7, h8, by omega⟩
theorem DrawAt.wD {H : Hp} {D wl cl : Addr} {n : Nat} (h : DrawAt H D wl cl n) : D ≠ wl := by
  obtain ⟨ws, cs, r, t, h1, h2, _⟩ := h
  exact fun z => by rw [z, h2] at h1; cases h1
theorem DrawAt.dD {H : Hp} {D wl cl : Addr} {n : Nat} (h : DrawAt H D wl cl n) : ∃ o, H D = some o := by
  obtain ⟨ws, cs, r, t, h1, _⟩ := h
  exact ⟨_, h1⟩
theorem DrawAt.dW {H : Hp} {D wl cl : Addr} {n : Nat} (h : DrawAt H D wl cl n) : ∃ o, H wl = some o := by
  obtain ⟨ws, cs, r, t, h1, h2, _⟩ := h
  exact ⟨_, h2⟩
/-- what is no such list, no dict, is not written -/
theorem DrawAt.apart {H : Hp} {D wl cl : Addr} {n : Nat} (h : DrawAt H D wl cl n) {a : Addr} {o : HO} (e : H a = some o) (h1 : ∀ xs, o ≠ .lst xs) (h2 : ∀ kvs, o ≠ .dK kvs) : a ≠ D ∧ a ≠ wl := by
  obtain ⟨ws, cs, r, t, e1, e2, _⟩ := h
  refine ⟨fun z => ?_, fun z => ?_⟩
  · rw [z, e1] at e
    exact h2 _ (Option.some.inj e).symm
  · rw [z, e2] at e
    exact h1 _ (Option.some.inj e).symm
theorem Keep.free {D wl cl : Addr} {H H' : Hp} {n : Nat} (d : DrawAt H D wl cl n) (k : Keep D wl H H') {a : Addr} (e : H' a = none) (d' : DrawAt H' D wl cl n) : H a = none := by
  cases q : H a with
  | none => rfl
  | some o =>
    obtain ⟨o1, e1⟩ := d'.dD
    obtain ⟨o2, e2⟩ := d'.dW
    have := k a o (fun z => by rw [z, e1] at e; cases e) (fun z => by rw [z, e2] at e; cases e) q
    rw [e] at this
    cases this
section
variable {P : Program} {w : World} {K : PySem.W.Frag} {mg : Str → Option Value} {base : Heap} {f : Addr} {fd : FuncData}
def spMixed : Sp := fun vs H Q _ => ∃ (D wl cl : Addr) (m : Nat), vs = [.ref D] ∧ DrawAt H D wl cl (m + 1) ∧ ∀ H' (v : Int), 0 ≤ v → Keep D wl H H' → DrawAt H' D wl cl m → Q (.int v) H'
theorem ok__law_mixed (F : FnP K "_law_mixed" "_law_mixed" s__law_mixed f fd) (T : Txt K mg) : FnOk P w K mg base CX0 1 f fd P__law_mixed spMixed := by
  refine okD F sc__law_mixed (fun vs H Q E h => ?_) (fun cdv A outer s H vs Q E hr h => ?_)
  · obtain ⟨_, _, _, _, rfl, _⟩ := h; rfl
  · obtain ⟨D, wl, cl, m, rfl, ⟨ws, cs, r, t, hD, hwl, hcl, ncw, hws, hcs, hr0, ht0, hbd⟩, q⟩ := h
    have nd := sc__law_mixed.nd
    refine ⟨_, pss_cons (ps_par (i := 1) (j := 2) (by rfl) nd rfl rfl (by decide) rfl rfl (pa_cons (pe_op op_add (pe_dget (hu_of hr) (pv 0) (pe_str) (fun _ _ => rfl)) (pe_int)) (pa_cons (pe_int) pa_nil)) (by rfl))
    (pss_cons (ps_dput (hu_of hr) (pv 0) (pe_str) (pv 1) rfl)
    (pss_cons (ps_for PassesOwn.never rfl (pi_list (pe_lst (pa_cons (pe_int) (pa_cons (pe_int) (pa_cons (pe_int) (pa_cons (pe_int) pa_nil)))))) (pg_name (i := 3) nd rfl (Or.inl rfl))
      (pss_cons (ps_set (i := 4) nd rfl (Or.inl rfl) (pe_op op_add (pe_op op_mul (pe_int) (pv 1)) (pe_op op_fdiv (pv 3) (pe_int))))
      (pss_cons (ps_for PassesOwn.never rfl (pi_list (pe_dget (hu_of hr) (pv 0) (pe_str) (fun _ _ => rfl))) (pg_name (i := 5) nd rfl (Or.inl rfl))
        (pss_one (ps_set (i := 4) nd rfl (Or.inl rfl) (pe_op op_mod (pe_callTy call_int1 (by rfl) T.f_int (by decide +kernel) (pa_cons (pe_op op_add (pe_op op_add (pe_op op_mul (pv 4) (pe_int)) (pv 5)) (pv 1)) pa_nil)) (pv 3)))))
      (pss_one (ps_set (i := 2) nd rfl (Or.inl rfl) (pe_op op_add (pe_op op_mul (pv 2) (pe_int)) (pe_op op_mod (pe_callTy call_int1 (by rfl) T.f_int (by decide +kernel) (pa_cons (pe_op op_pow (pv 4) (pe_int)) pa_nil)) (pv 3))))))))
    (pss_one (ps_ret (pv 2))))), ?_⟩
    have nDw : D ≠ wl := fun z => by rw [z, hwl] at hD; cases hD
    have nDc : D ≠ cl := fun z => by rw [z, hcl] at hD; cases hD
    refine ⟨_, rfl, _, _, rfl, dget_s' hD rfl, _, _, rfl, rfl, _, _, rfl, ?_⟩
    refine ⟨_, rfl, _, rfl, _, _, rfl, DPut.k (k := Sum.inr "turn") hD (by show 4 < sizeLine; rw [sizeLine_eq]; decide), ?_⟩
    rw [show putK (drD wl cl r t) (Sum.inr "turn") (.int (t + 1)) = drD wl cl r (t + 1) from rfl]
    have k1 : Keep D wl H (upd H D (.dK (drD wl cl r (t + 1)))) := fun b o h1 _ e => by rw [upd_ne h1]; exact e
    have hD1 : (upd H D (.dK (drD wl cl r (t + 1)))) D = some (.dK (drD wl cl r (t + 1))) := upd_same
    have hwl1 : (upd H D (.dK (drD wl cl r (t + 1)))) wl = some (.lst (ws.map V.int)) := by rw [upd_ne (Ne.symm nDw)]; exact hwl
    have hcl1 : (upd H D (.dK (drD wl cl r (t + 1)))) cl = some (.lst (cs.map V.int)) := by rw [upd_ne (Ne.symm nDc)]; exact hcl
    generalize upd H D (.dK (drD wl cl r (t + 1))) = H1 at k1 hD1 hwl1 hcl1 ⊢
    refine ⟨by show 4 ≤ sizeLine; rw [sizeLine_eq]; decide, fun pl hpl => ?_⟩
    have s2 : Same H1 (upd H1 pl (.lst [.int 2147483629, .int 2147483587, .int 2147483579, .int 2147483563])) := Same.new hpl
    have hpl2 : (upd H1 pl (.lst [.int 2147483629, .int 2147483587, .int 2147483579, .int 2147483563])) pl = some (.lst [.int 2147483629, .int 2147483587, .int 2147483579, .int 2147483563]) := upd_same
    have hcl2 := s2 _ _ hcl1
    have hD2 := s2 _ _ hD1
    have hwl2 := s2 _ _ hwl1
    have k2 : Keep D wl H (upd H1 pl (.lst [.int 2147483629, .int 2147483587, .int 2147483579, .int 2147483563])) := k1.trans (Same.keep s2)
    generalize upd H1 pl (.lst [.int 2147483629, .int 2147483587, .int 2147483579, .int 2147483563]) = H2 at s2 hpl2 hcl2 hD2 hwl2 k2 ⊢
    refine ⟨pl, rfl, ⟨_, SqL.of hpl2⟩, for_list (K := K) (a := pl) (xs := [.int 2147483629, .int 2147483587, .int 2147483579, .int 2147483563]) (fun i σ H' => ∃ (fnd : Int) (v3 v4 v5 : Option V), σ = [some (.ref D), some (.int (t + 1)), some (.int fnd), v3, v4, v5] ∧ 0 ≤ fnd ∧ H' = H2) ⟨0, none, none, none, rfl, by omega, rfl⟩ (fun i σ H' _ ⟨_, _, _, _, _, _, e⟩ => by rw [e]; exact SqL.of hpl2) ?_ ?_⟩
    · rintro i x σ H' hi ⟨fnd, v3, v4, v5, rfl, hf, e⟩
      rw [e]
      obtain ⟨p, rfl, hp1, hp2⟩ : ∃ p : Int, x = .int p ∧ 0 < p ∧ p < 2147483648 := by
        have hm := List.mem_of_getElem? hi
        simp only [List.mem_cons, List.not_mem_nil, or_false] at hm
        rcases hm with rfl | rfl | rfl | rfl <;> exact ⟨_, rfl, by decide, by decide⟩
      have hd1 : 0 ≤ p / 19 := by omega
      have hd2 : p / 19 < 2147483648 := by omega
      refine ⟨_, rfl, _, _, rfl, rfl, .inl ⟨by decide, by decide⟩, _, rfl, _, _, rfl, rfl, ⟨by decide, by decide⟩, _, _, rfl, rfl, ?_⟩
      refine ⟨_, rfl, _, _, rfl, dget_s' hD2 rfl, cl, rfl, ⟨_, SqL.of hcl2⟩, for_list (K := K) (a := cl) (xs := cs.map V.int) (fun i σ H' => ∃ (bl : Int) (v5 : Option V), σ = [some (.ref D), some (.int (t + 1)), some (.int fnd), some (.int p), some (.int bl), v5] ∧ 0 ≤ bl ∧ bl < 18446744073709551616 ∧ H' = H2) ⟨_, _, rfl, by omega, by omega, rfl⟩ (fun i σ H' _ ⟨_, _, _, _, _, e⟩ => by rw [e]; exact SqL.of hcl2) ?_ ?_⟩
      · rintro j y σ H' hj ⟨bl, v5, rfl, hb1, hb2, e⟩
        rw [e]
        rw [List.getElem?_map] at hj
        obtain ⟨c, hc, rfl⟩ := Option.map_eq_some_iff.mp hj
        have hm1 := Int.emod_nonneg (bl * 48271 + c + (t + 1)) (show p ≠ 0 by omega)
        have hm2 := Int.emod_lt_of_pos (bl * 48271 + c + (t + 1)) hp1
        exact ⟨_, rfl, _, _, rfl, rfl, .inr ⟨by decide, by decide⟩, _, rfl, _, _, rfl, rfl, _, rfl, _, _, rfl, rfl, .inl ⟨_, rfl, _, rfl, _, _, rfl, rfl, hp1, _, _, rfl, hm1, by omega, rfl⟩⟩
      · rintro σ H' ⟨bl, v5, rfl, hb1, hb2, e⟩
        rw [e]
        have hm1 := Int.emod_nonneg (bl ^ (5 : Int).toNat) (show p ≠ 0 by omega)
        refine ⟨_, rfl, _, _, rfl, rfl, .inr ⟨by decide, by decide⟩, _, rfl, _, _, rfl, rfl, ⟨by decide, by decide, by show bl.natAbs < 18446744073709551616; omega⟩, .inl ⟨_, rfl, _, rfl, _, _, rfl, rfl, hp1, _, _, rfl, rfl, _, _, _, _, rfl, ?_, rfl⟩⟩
        omega
    · rintro σ H' ⟨fnd, v3, v4, v5, rfl, hf, e⟩
      rw [e]
      exact ⟨_, rfl, q H2 fnd hf k2 ⟨ws, cs, r, t + 1, hD2, hwl2, hcl2, ncw, hws, hcs, hr0, by omega, by omega⟩⟩
end
end K94
set_option maxHeartbeats 4000000
/-! one draw; one of some -/
namespace K94
open PySem PySem.Spec PyProof.Rows L2 StX
section
variable {P : Program} {w : World} {K : PySem.W.Frag} {mg : Str → Option Value} {base : Heap} {f : Addr} {fd : FuncData}
def spTake : Sp := fun vs H Q _ => ∃ (D wl cl : Addr) (m n : Nat), vs = [.ref D, .int (n : Nat)] ∧ 1 ≤ n ∧ n < 1000000 ∧ DrawAt H D wl cl (m + 1) ∧ ∀ H' (v : Nat), v < n → Keep D wl H H' → DrawAt H' D wl cl m → Q (.int (v : Nat)) H'
theorem ok__law_take (F : FnP K "_law_take" "_law_take" s__law_take f fd) (T : Txt K mg) (g__law_mixed : GF P w K mg base 1 "_law_mixed" P__law_mixed spMixed) : FnOk P w K mg base CX0 2 f fd P__law_take spTake := by
  refine okD F sc__law_take (fun vs H Q E h => ?_) (fun cdv A outer s H vs Q E hr h => ?_)
  · obtain ⟨_, _, _, _, _, rfl, _⟩ := h; rfl
  · obtain ⟨D, wl, cl, m, n, rfl, hn1, hn2, dr, q⟩ := h
    have nd := sc__law_take.nd
    refine ⟨_, pss_cut (ps_if (pt_cmpR op_eq (pe_dget (hu_of hr) (pv 0) (pe_str) (fun _ _ => rfl)) (pe_int) (nomark _))
      (pss_one (ps_dput (hu_of hr) (pv 0) (pe_str) (pe_ifExp (pt_cmpR (op_neD hr.units) (pe_dget (hu_of hr) (pv 0) (pe_str) (fun _ _ => rfl)) (pe_lst (pa_nil)) (nomark _)) (pe_bm PySem.F.plainAttrs_list PySem.F.slot_list_pop PySem.F.type_list_pop mt_popAt (pe_dget (hu_of hr) (pv 0) (pe_str) (fun _ _ => rfl)) (pa_cons (pe_int) pa_nil)) (pe_g g__law_mixed hr (pa_cons (pv 0) pa_nil))) rfl))
      (pss_nil))
    (pss_cons (ps_set (i := 2) nd rfl (Or.inl rfl) (pe_op op_mod (pe_callTy call_int1 (by rfl) T.f_int (by decide +kernel) (pa_cons (pe_dget (hu_of hr) (pv 0) (pe_str) (fun _ _ => rfl)) pa_nil)) (pv 1)))
    (pss_cons (ps_dput (hu_of hr) (pv 0) (pe_str) (pe_op op_fdiv (pe_dget (hu_of hr) (pv 0) (pe_str) (fun _ _ => rfl)) (pv 1)) rfl)
    (pss_one (ps_ret (pv 2))))), ?_⟩
    refine ⟨fun σ' H' => σ' = [some (.ref D), some (.int (n : Nat)), none] ∧ Keep D wl H H' ∧ DrawAt H' D wl cl m, ?_, ?_⟩
    · obtain ⟨ws, cs, r, t, hD, hwl, hcl, ncw, hws, hcs, hr0, ht0, hbd⟩ := id dr
      have nDw : D ≠ wl := fun z => by rw [z, hwl] at hD; cases hD
      have nDc : D ≠ cl := fun z => by rw [z, hcl] at hD; cases hD
      refine ⟨_, rfl, _, _, rfl, dget_s' hD rfl, rfl, _, rfl, ?_⟩
      by_cases h : r = 0
      · rw [decide_eq_true (show V.int r = V.int 0 by rw [h])]
        refine iteT ⟨_, rfl, _, _, rfl, dget_s' hD rfl, Nat.zero_le _, fun p hp => ?_⟩
        have s1 : Same H (upd H p (.lst [])) := Same.new hp
        have hD1 := s1 _ _ hD
        have hwl1 := s1 _ _ hwl
        have hcl1 := s1 _ _ hcl
        refine ne_nil (ns := ws) (SqL.of hwl1) (SqL.of upd_same) ⟨_, rfl, ?_⟩
        generalize upd H p (.lst []) = H1 at s1 hD1 hwl1 hcl1 ⊢
        cases ws with
        | nil =>
          refine iteF ⟨_, rfl, D, wl, cl, m, rfl, ⟨[], cs, r, t, hD1, hwl1, hcl1, ncw, hws, hcs, hr0, ht0, by omega⟩, fun H2 v hv k2 d2 => ?_⟩
          obtain ⟨ws2, cs2, r2, t2, hD2, hwl2, hcl, ncw2, hws2, hcs2, hr2, ht2, hbd2⟩ := d2
          have nDc2 : D ≠ cl := fun z => by rw [z, hcl] at hD2; cases hD2
          refine ⟨_, rfl, _, _, rfl, DPut.k (k := Sum.inr "rest") hD2 (by show 4 < sizeLine; rw [sizeLine_eq]; decide), rfl, ?_, ?_⟩
          · exact (Same.keep s1).trans (k2.trans fun b o h1 _ e => by rw [upd_ne h1]; exact e)
          · exact ⟨ws2, cs2, v, t2, upd_same, by rw [upd_ne (Ne.symm nDw)]; exact hwl2, by rw [upd_ne (Ne.symm nDc2)]; exact hcl, ncw2, hws2, hcs2, hv, ht2, hbd2⟩
        | cons a ws =>
          refine iteT ⟨_, rfl, _, _, rfl, dget_s' hD1 rfl, .inl ⟨rfl, _, SqL.of hwl1⟩, wl, _, 0, 0, .int a, rfl, rfl, hwl1, by decide, by decide, ?_, rfl, ?_⟩
          · unfold seqIndex?
            simp
          have hD2 : (upd H1 wl (.lst ((List.map V.int (a :: ws)).eraseIdx 0))) D = some (.dK (drD wl cl r t)) := by rw [upd_ne nDw]; exact hD1
          have hcl : (upd H1 wl (.lst ((List.map V.int (a :: ws)).eraseIdx 0))) cl = some (.lst (cs.map V.int)) := by rw [upd_ne ncw]; exact hcl1
          refine ⟨_, rfl, _, _, rfl, DPut.k (k := Sum.inr "rest") hD2 (by show 4 < sizeLine; rw [sizeLine_eq]; decide), rfl, ?_, ?_⟩
          · exact (Same.keep s1).trans fun b o h1 h2 e => by rw [upd_ne h1, upd_ne h2]; exact e
          · exact ⟨ws, cs, a, t, upd_same, by rw [upd_ne (Ne.symm nDw), upd_same]; rfl, by rw [upd_ne (Ne.symm nDc)]; exact hcl, ncw, fun x hx => hws x (List.mem_cons_of_mem _ hx), hcs, hws a List.mem_cons_self, ht0, by omega⟩
      · rw [decide_eq_false fun z => h (int_iff.mp z)]
        exact iteF ⟨rfl, Keep.refl _ _ _, dr.less (Nat.le_succ m)⟩
    · rintro σ' H1 ⟨rfl, k1, ws, cs, r, t, hD, hwl, hcl, ncw, hws, hcs, hr0, ht0, hbd⟩
      have nDw : D ≠ wl := fun z => by rw [z, hwl] at hD; cases hD
      have nDc : D ≠ cl := fun z => by rw [z, hcl] at hD; cases hD
      have hm1 := Int.emod_nonneg r (show (n : Int) ≠ 0 by omega)
      have hm2 := Int.emod_lt_of_pos r (show (0 : Int) < n by omega)
      have ev : r % (n : Nat) = ((r % (n : Nat)).toNat : Nat) := by omega
      refine ⟨_, rfl, _, _, rfl, dget_s' hD rfl, .inl ⟨_, rfl, _, rfl, _, _, rfl, rfl, by omega, ?_⟩⟩
      rw [show (fun i j => V.int (i % j)) r (n : Int) = V.int ((r % (n : Nat)).toNat : Nat) from by show V.int (r % (n : Nat)) = _; rw [← ev]]
      generalize hv : (r % (n : Nat)).toNat = v
      refine ⟨_, rfl, _, _, rfl, dget_s' hD rfl, _, rfl, _, _, rfl, rfl, ⟨by omega, by omega⟩, _, rfl, _, _, rfl, DPut.k (k := Sum.inr "rest") hD (by show 4 < sizeLine; rw [sizeLine_eq]; decide), _, rfl, ?_⟩
      refine q _ v (by omega) (k1.trans fun b o h1 _ e => by rw [upd_ne h1]; exact e) ⟨ws, cs, r / (n : Nat), t, upd_same, by rw [upd_ne (Ne.symm nDw)]; exact hwl, by rw [upd_ne (Ne.symm nDc)]; exact hcl, ncw, hws, hcs, Int.ediv_nonneg hr0 (by omega), ht0, hbd⟩
def spPick (K : PySem.W.Frag) : Sp := fun vs H Q _ => ∃ (D wl cl : Addr) (m : Nat) (l : Addr) (xs : List V), vs = [.ref D, .ref l] ∧ ((H l = some (.lst xs) ∧ l ≠ wl) ∨ H l = some (.tup xs)) ∧ xs ≠ [] ∧ xs.length < 1000000 ∧ DrawAt H D wl cl (m + 1) ∧
  ∀ H' x, x ∈ xs → Keep D wl H H' → DrawAt H' D wl cl m → Q x H'
theorem ok__law_pick (F : FnP K "_law_pick" "_law_pick" s__law_pick f fd) (T : Txt K mg) (g__law_take : GF P w K mg base 2 "_law_take" P__law_take spTake) : FnOk P w K mg base CX0 3 f fd P__law_pick (spPick K) := by
  refine okD F sc__law_pick (fun vs H Q E h => ?_) (fun cdv A outer s H vs Q E hr h => ?_)
  · obtain ⟨_, _, _, _, _, _, rfl, _⟩ := h; rfl
  · obtain ⟨D, wl, cl, m, l, xs, rfl, hl, hne, hlen, dr, q⟩ := h
    refine ⟨_, pss_one (ps_ret (pe_ix ix_seq (pv 1) (pe_g g__law_take hr (pa_cons (pv 0) (pa_cons (pe_callB call_len_seq (by rfl) T.f_len (by decide +kernel) (pa_cons (pv 1) pa_nil)) pa_nil))) (fun _ _ => rfl))), ?_⟩
    have hpos : 1 ≤ xs.length := List.length_pos_iff.mpr hne
    have hat : ∀ v : Nat, v < xs.length → ∃ x, atI xs (v : Int) = some x ∧ x ∈ xs := fun v hv => ⟨xs[v], atI_nat (List.getElem?_eq_getElem hv), List.getElem_mem hv⟩
    rcases hl with ⟨hl, nlw⟩ | hl
    · obtain ⟨o, hDo⟩ := dr.dD
      have nlD : l ≠ D := fun z => by
        obtain ⟨ws, cs, r, t, hD, _⟩ := dr
        rw [z, hD] at hl
        cases hl
      refine ⟨_, rfl, _, rfl, _, rfl, l, xs, rfl, .inl (SqL.of hl), D, wl, cl, m, xs.length, rfl, hpos, hlen, dr, fun H' v hv k d => ?_⟩
      obtain ⟨x, hx, hm⟩ := hat v hv
      exact .inl ⟨l, xs, v, x, rfl, rfl, SqL.of (k l _ nlD nlw hl), hx, q H' x hm k d⟩
    · obtain ⟨n1, n2⟩ := dr.apart hl (fun _ z => by cases z) (fun _ z => by cases z)
      refine ⟨_, rfl, _, rfl, _, rfl, l, xs, rfl, .inr (SqT.of hl), D, wl, cl, m, xs.length, rfl, hpos, hlen, dr, fun H' v hv k d => ?_⟩
      obtain ⟨x, hx, hm⟩ := hat v hv
      exact .inr (.inl ⟨l, xs, v, x, rfl, rfl, SqT.of (k l _ n1 n2 hl), hx, q H' x hm k d⟩)
end
end K94
set_option maxHeartbeats 4000000
/-! the draw begins; some in another order -/
namespace K94
open PySem PySem.Spec PyProof.Rows L2 StX
def absI (i : Int) : Int := if i < 0 then -i else i
theorem absI_nn (i : Int) : 0 ≤ absI i := by unfold absI; split <;> omega
section
variable {P : Program} {w : World} {K : PySem.W.Frag} {mg : Str → Option Value} {base : Heap} {f : Addr} {fd : FuncData}
def spBegun (K : PySem.W.Frag) : Sp := fun vs H Q _ => ∃ (a : Addr) (ns : List Int), vs = [.ref a] ∧ SqL K H a (ns.map V.int) ∧ (∀ H', Same H H' → SqL K H' a (ns.map V.int)) ∧ ns.length ≤ 63 ∧ ∀ H' D wl cl, Same H H' → H D = none → H wl = none → DrawAt H' D wl cl 1000000000 → Q (.ref D) H'
theorem ok__law_begun (F : FnP K "_law_begun" "_law_begun" s__law_begun f fd) (T : Txt K mg) : FnOk P w K mg base CX0 1 f fd P__law_begun (spBegun K) := by
  refine okD F sc__law_begun (fun vs H Q E h => ?_) (fun cdv A outer s H vs Q E hr h => ?_)
  · obtain ⟨_, _, rfl, _⟩ := h; rfl
  · obtain ⟨a, ns, rfl, ha, hk, hlen, q⟩ := h
    have nd := sc__law_begun.nd
    refine ⟨_, pss_cons (ps_setLc (i := 1) (own := [("_law_cell", 2)]) (g := gName 2) rfl nd rfl rfl (sw_true rfl rfl rfl (by decide +kernel)) (pi_list (pv 0)) (blkOk_by (N := N__law_begun) (sc := defScope s__law_begun) (own := [("_law_cell", 2)]) (by decide +kernel)) (fun _ _ _ _ _ => pg_name (i := 2) nd rfl (Or.inl rfl)) (fun _ _ _ _ _ => pts_one (pt_cmpR op_ge (pe_callB call_abs (by rfl) T.f_abs (by decide +kernel) (pa_cons (pv 2) pa_nil)) (pe_op op_pow (pe_int) (pe_int)) (nomark _))) (fun _ _ _ _ _ => pe_op op_sub (pe_callB call_abs (by rfl) T.f_abs (by decide +kernel) (pa_cons (pv 2) pa_nil)) (pe_op op_pow (pe_int) (pe_int))))
    (pss_one (ps_ret (pe_disp (pps_cons (pe_str) (pv 1) (pps_cons (pe_str) (pe_lc (own := [("_law_cell", 2)]) (g := gName 2) rfl nd (pi_list (pv 0)) (blkOk_by (N := N__law_begun) (sc := defScope s__law_begun) (own := [("_law_cell", 2)]) (by decide +kernel)) (fun _ _ _ _ _ => pg_name (i := 2) nd rfl (Or.inl rfl)) (fun _ _ _ _ _ => pts_nil) (fun _ _ _ _ _ => pe_op op_mod (pe_callTy call_int1 (by rfl) T.f_int (by decide +kernel) (pa_cons (pe_callB call_abs (by rfl) T.f_abs (by decide +kernel) (pa_cons (pv 2) pa_nil)) pa_nil)) (pe_int))) (pps_cons (pe_str) (pe_int) (pps_cons (pe_str) (pe_int) (pps_nil))))) (by rfl) (by rfl) (fun z => by cases z) (by decide)))), ?_⟩
    refine ⟨_, rfl, a, rfl, ⟨_, ha⟩, fun wl hwl => ?_⟩
    refine lc_it (walk_list (K := K) (a := a) (xs := ns.map V.int)) (fun i H' => ∃ ws : List Int, Same H H' ∧ H' wl = some (.lst (ws.map V.int)) ∧ (∀ w ∈ ws, 0 ≤ w) ∧ ws.length ≤ i) ⟨[], Same.new hwl, upd_same, (fun _ h => nomatch h), Nat.le_refl _⟩ (fun i H' _ ⟨_, h, _⟩ => hk H' h) ?_ ?_
    · rintro i x H' H'' hi ⟨ws, h1, h2, h3, h4⟩ ⟨rfl, hx⟩
      rw [List.length_map] at hi
      rw [List.getElem?_map] at hx
      obtain ⟨c, hc, rfl⟩ := Option.map_eq_some_iff.mp hx
      refine ⟨rfl, _, rfl, _, rfl, _, _, rfl, rfl, ⟨by decide, by decide, by decide⟩, _, _, rfl, rfl, _, rfl, ?_⟩
      refine ite2 (fun h => ?_) (fun h => ⟨ws, h1, h2, h3, by omega⟩)
      have h : absI c ≥ (10 : Int) ^ (18 : Int).toNat := of_decide_eq_true h
      refine ⟨_, rfl, _, rfl, _, _, rfl, rfl, ⟨by decide, by decide, by decide⟩, _, _, rfl, rfl, _, h2, by rw [List.length_map]; exact small1000 (by omega), ws ++ [absI c - (10 : Int) ^ (18 : Int).toNat], fun b o e => ?_, ?_, fun x hx => ?_, ?_⟩
      · rw [upd_ne (ne_of_none e hwl)]
        exact h1 b o e
      · rw [upd_same, List.map_append]
        rfl
      · rcases List.mem_append.mp hx with z | z
        · exact h3 x z
        · rw [List.mem_singleton.mp z]; omega
      · rw [List.length_append, List.length_singleton]
        omega
    · rintro H1 ⟨ws, h1, h2, h3, h4⟩
      intro D hD
      have nDw : wl ≠ D := fun z => by rw [z, hD] at h2; cases h2
      have s2 : Same H1 (upd H1 D (.dK [])) := Same.new hD
      have hD2 : (upd H1 D (.dK [])) D = some (.dK []) := upd_same
      have hwl2 := s2 _ _ h2
      have h12 := h1.trans s2
      generalize upd H1 D (.dK []) = H2 at s2 hD2 hwl2 h12 ⊢
      refine ⟨_, rfl, _, rfl, a, rfl, ⟨_, hk H2 h12⟩, fun cl hcl => ?_⟩
      have nDc : D ≠ cl := fun z => by rw [z, hcl] at hD2; cases hD2
      have nwc : wl ≠ cl := fun z => by rw [z, hcl] at hwl2; cases hwl2
      refine lc_it (walk_list (K := K) (a := a) (xs := ns.map V.int)) (fun i H' => ∃ cs : List Int, Same H2 H' ∧ H' cl = some (.lst (cs.map V.int)) ∧ (∀ c ∈ cs, 0 ≤ c ∧ c < 2147483629) ∧ cs.length ≤ i) ⟨[], Same.new hcl, upd_same, (fun _ h => nomatch h), Nat.le_refl _⟩ (fun i H' _ ⟨_, h, _⟩ => hk H' (h12.trans h)) ?_ ?_
      · rintro i x H' H'' hi ⟨cs, g1, g2, g3, g4⟩ ⟨rfl, hx⟩
        rw [List.length_map] at hi
        rw [List.getElem?_map] at hx
        obtain ⟨c, hc, rfl⟩ := Option.map_eq_some_iff.mp hx
        have hm1 := Int.emod_nonneg (absI c) (show (2147483629 : Int) ≠ 0 by decide)
        have hm2 := Int.emod_lt_of_pos (absI c) (show (0 : Int) < 2147483629 by decide)
        refine ⟨rfl, _, rfl, _, rfl,   .inl ⟨_, rfl, _, _, rfl, rfl, (show (0 : Int) < 2147483629 by decide), _, g2, by rw [List.length_map]; exact small1000 (by omega), cs ++ [absI c % 2147483629], fun b o e => ?_, ?_, fun x hx => ?_, ?_⟩⟩
        · rw [upd_ne (ne_of_none e hcl)]
          exact g1 b o e
        · rw [upd_same, List.map_append]
          rfl
        · rcases List.mem_append.mp hx with z | z
          · exact g3 x z
          · rw [List.mem_singleton.mp z]; exact ⟨hm1, hm2⟩
        · rw [List.length_append, List.length_singleton]
          omega
      · rintro H3 ⟨cs, g1, g2, g3, g4⟩
        have hD3 := g1 _ _ hD2
        refine ⟨hD3, drD wl cl 0 0, rfl, by show 4 ≤ 15; decide, ?_⟩
        rw [show mergeK [] (drD wl cl 0 0) = drD wl cl 0 0 from rfl]
        have hD0 : H D = none := h1.free hD
        refine q _ D wl cl (fun b o e => ?_) hD0 hwl ⟨ws, cs, 0, 0, upd_same, by rw [upd_ne nDw]; exact g1 _ _ hwl2, by rw [upd_ne (Ne.symm nDc)]; exact g2, Ne.symm nwc, h3, g3, by decide, by decide, by decide⟩
        rw [upd_ne (ne_of_none e hD0)]
        exact g1 _ _ (h12 b o e)
end
end K94
set_option maxHeartbeats 4000000
/-! some in another order; fields; the book -/
namespace K94
open PySem PySem.Spec PyProof.Rows L2 StX
theorem DrawAt.put {H : Hp} {D wl cl a : Addr} {n : Nat} {o : HO} (d : DrawAt H D wl cl n) (h1 : a ≠ D) (h2 : a ≠ wl) (h3 : a ≠ cl) : DrawAt (upd H a o) D wl cl n := by
  obtain ⟨ws, cs, r, t, e1, e2, e3, e4⟩ := d
  exact ⟨ws, cs, r, t, by rw [upd_ne (Ne.symm h1)]; exact e1, by rw [upd_ne (Ne.symm h2)]; exact e2, by rw [upd_ne (Ne.symm h3)]; exact e3, e4⟩
/-- what was not there is none of the draw's -/
theorem DrawAt.fresh {H : Hp} {D wl cl a : Addr} {n : Nat} (d : DrawAt H D wl cl n) (h : H a = none) : a ≠ D ∧ a ≠ wl ∧ a ≠ cl := by
  obtain ⟨ws, cs, r, t, e1, e2, e3, _⟩ := d
  exact ⟨fun z => (by rw [z, e1] at h; cases h), fun z => (by rw [z, e2] at h; cases h), fun z => (by rw [z, e3] at h; cases h)⟩
theorem Keep.put {D wl a : Addr} {H H' : Hp} {o : HO} (k : Keep D wl H H') (h : H a = none) : Keep D wl H (upd H' a o) := fun b u h1 h2 e => by
  rw [upd_ne (ne_of_none e h)]
  exact k b u h1 h2 e
theorem eraseIdx_map' {α β : Type} (g : α → β) : ∀ (l : List α) (v : Nat), (l.map g).eraseIdx v = (l.eraseIdx v).map g
  | [], _ => rfl
  | a :: l, 0 => rfl
  | a :: l, v + 1 => congrArg (g a :: ·) (eraseIdx_map' g l v)
theorem erase_perm {α : Type} : ∀ {l : List α} {v : Nat} {x : α}, l[v]? = some x → (x :: l.eraseIdx v).Perm l
  | [], _, _, h => by simp at h
  | a :: l, 0, x, h => by
    simp at h
    subst h
    exact List.Perm.refl _
  | a :: l, v + 1, x, h => by
    have h : l[v]? = some x := by simpa using h
    exact (List.Perm.swap a x _).trans ((erase_perm h).cons a)
section
variable {P : Program} {w : World} {K : PySem.W.Frag} {mg : Str → Option Value} {base : Heap} {f : Addr} {fd : FuncData}
def spShuffled : Sp := fun vs H Q _ => ∃ (D wl cl : Addr) (m : Nat) (l : Addr) (xs : List Str), vs = [.ref D, .ref l] ∧ H l = some (.lst (xs.map V.str)) ∧ (∀ x ∈ xs, x ∈ lets) ∧ xs.length ≤ 1000 ∧ DrawAt H D wl cl (m + xs.length) ∧
  ∀ H' L (ys : List Str), ys.Perm xs → Keep D wl H H' → H L = none → H' L = some (.lst (ys.map V.str)) → DrawAt H' D wl cl m → Q (.ref L) H'
theorem ok__law_shuffled (F : FnP K "_law_shuffled" "_law_shuffled" s__law_shuffled f fd) (T : Txt K mg) (g__law_take : GF P w K mg base 2 "_law_take" P__law_take spTake) : FnOk P w K mg base CX0 3 f fd P__law_shuffled spShuffled := by
  refine okD F sc__law_shuffled (fun vs H Q E h => ?_) (fun cdv A outer s H vs Q E hr h => ?_)
  · obtain ⟨_, _, _, _, _, _, rfl, _⟩ := h; rfl
  · obtain ⟨D, wl, cl, m, l, xs, rfl, hl, hlets, hlen, dr, q⟩ := h
    have nd := sc__law_shuffled.nd
    refine ⟨_, pss_cons (ps_par (i := 2) (j := 3) (by rfl) nd rfl rfl (by decide) rfl rfl (pa_cons (pe_callTy call_list_of (by rfl) T.f_list (by decide +kernel) (pa_cons (pv 1) pa_nil)) (pa_cons (pe_lst (pa_nil)) pa_nil)) (by rfl))
    (pss_cons (ps_while PassesOwn.never (pt_cmpR (op_neD hr.units) (pv 2) (pe_lst (pa_nil)) (nomark _))
      (pss_one (ps_expr (pe_bm PySem.F.plainAttrs_list PySem.F.slot_list_append PySem.F.type_list_append mt_append (pv 3) (pa_cons (pe_bm PySem.F.plainAttrs_list PySem.F.slot_list_pop PySem.F.type_list_pop mt_popAt (pv 2) (pa_cons (pe_g g__law_take hr (pa_cons (pv 0) (pa_cons (pe_callB call_len_seq (by rfl) T.f_len (by decide +kernel) (pa_cons (pv 2) pa_nil)) pa_nil))) pa_nil)) pa_nil)))))
    (pss_one (ps_ret (pv 3)))), ?_⟩
    refine ⟨_, rfl, l, _, rfl, .inl (SqL.of hl), fun lf hlf => ⟨Nat.zero_le _, fun fo hfo => ⟨_, _, rfl, ?_⟩⟩⟩
    have s1 : Same H (upd H lf (.lst (xs.map V.str))) := Same.new hlf
    have s2 : Same (upd H lf (.lst (xs.map V.str))) (upd (upd H lf (.lst (xs.map V.str))) fo (.lst [])) := Same.new hfo
    have h1 := s2 _ _ (upd_same (H := H) (a := lf) (o := .lst (xs.map V.str)))
    have h2 : (upd (upd H lf (.lst (xs.map V.str))) fo (.lst [])) fo = some (.lst (([] : List Str).map V.str)) := upd_same
    have s12 := s1.trans s2
    have nfo : H fo = none := s1.free hfo
    have dr2 := dr.mono s12
    have nff : lf ≠ fo := fun z => by rw [← z, upd_same] at hfo; cases hfo
    obtain ⟨nlfD, nlfW, nlfC⟩ := dr.fresh hlf
    obtain ⟨nfoD, nfoW, nfoC⟩ := dr.fresh nfo
    generalize upd (upd H lf (.lst (xs.map V.str))) fo (.lst []) = H2 at h1 h2 s12 dr2
    refine ⟨fun k σ H' => ∃ left done : List Str, σ = [some (.ref D), some (.ref l), some (.ref lf), some (.ref fo)] ∧ k = left.length ∧ (left ++ done).Perm xs ∧ Keep D wl H H' ∧ H' lf = some (.lst (left.map V.str)) ∧ H' fo = some (.lst (done.map V.str)) ∧ DrawAt H' D wl cl (m + left.length), ⟨_, xs, [], rfl, rfl, by rw [List.append_nil], Same.keep s12, h1, h2, dr2⟩, ?_⟩
    rintro k σ H' ⟨left, done, rfl, rfl, hperm, kp, hlf', hfo', dr'⟩
    have hlet : ∀ x ∈ left, x ∈ lets := fun x hx => hlets x (hperm.mem_iff.mp (List.mem_append_left _ hx))
    have hll : left.length + done.length = xs.length := by rw [← List.length_append]; exact hperm.length_eq
    refine ⟨_, rfl, Nat.zero_le _, fun p hp => ?_⟩
    have s3 : Same H' (upd H' p (.lst [])) := Same.new hp
    refine ne_nilS (ns := left) (fun x hx => lets_ok (hlet x hx)) (SqL.of (s3 _ _ hlf')) (SqL.of upd_same) ⟨_, rfl, ?_⟩
    have hlf3 := s3 _ _ hlf'
    have hfo3 := s3 _ _ hfo'
    have dr3 := dr'.mono s3
    have kp3 := kp.trans (Same.keep s3)
    generalize upd H' p (.lst []) = H3 at hlf3 hfo3 dr3 kp3
    cases hle : left with
    | nil =>
      subst hle
      exact iteF ⟨_, rfl, q H3 fo done (by simpa using hperm) kp3 nfo hfo3 dr3⟩
    | cons a r =>
      rw [← hle]
      have hpos : 1 ≤ left.length := by rw [hle, List.length_cons]; omega
      have hne : (!left.isEmpty) = true := by rw [hle]; rfl
      rw [hne]
      refine iteT ⟨fun σ' H'' => ∃ m', m' < left.length ∧ ∃ left done : List Str, σ' = [some (.ref D), some (.ref l), some (.ref lf), some (.ref fo)] ∧ m' = left.length ∧ (left ++ done).Perm xs ∧ Keep D wl H H'' ∧ H'' lf = some (.lst (left.map V.str)) ∧ H'' fo = some (.lst (done.map V.str)) ∧ DrawAt H'' D wl cl (m + left.length), fun _ _ z => z, ?_⟩
      refine ⟨_, rfl, .inl ⟨rfl, _, SqL.of hfo3⟩, _, rfl, .inl ⟨rfl, _, SqL.of hlf3⟩, _, rfl, _, rfl, lf, _, rfl, .inl (SqL.of hlf3), D, wl, cl, m + (left.length - 1), left.length, by rw [List.length_map]; rfl, hpos, by omega, by rw [show m + (left.length - 1) + 1 = m + left.length by omega]; exact dr3, fun H4 v hv k4 d4 => ?_⟩
      have hlf4 := k4 lf _ nlfD nlfW hlf3
      have hfo4 := k4 fo _ nfoD nfoW hfo3
      have hat := List.getElem?_eq_getElem hv
      generalize left[v] = x at hat
      refine ⟨lf, _, (v : Nat), v, .str x, rfl, rfl, hlf4, by omega, by omega, ?_, by rw [List.getElem?_map, hat]; rfl, ?_⟩
      · unfold seqIndex?
        rw [List.length_map]
        simp
        omega
      rw [eraseIdx_map']
      have hfo5 : (upd H4 lf (.lst ((left.eraseIdx v).map V.str))) fo = some (.lst (done.map V.str)) := by rw [upd_ne (Ne.symm nff)]; exact hfo4
      have hlf5 : (upd H4 lf (.lst ((left.eraseIdx v).map V.str))) lf = some (.lst ((left.eraseIdx v).map V.str)) := upd_same
      have hel : (left.eraseIdx v).length = left.length - 1 := by rw [List.length_eraseIdx, if_pos hv]
      refine ⟨fo, _, _, rfl, rfl, hfo5, by rw [List.length_map]; exact small1000 (by omega), (left.eraseIdx v).length, by omega, left.eraseIdx v, done ++ [x], rfl, rfl, ?_, ?_, by rw [upd_ne nff]; exact hlf5, by rw [upd_same, List.map_append]; rfl, ?_⟩
      · refine List.Perm.trans ?_ hperm
        refine List.Perm.trans ?_ ((erase_perm hat).append_right done)
        rw [← List.append_assoc]
        exact List.perm_append_singleton x (left.eraseIdx v ++ done)
      · exact ((kp3.trans k4).put hlf).put nfo
      · rw [hel]
        exact (d4.put nlfD nlfW nlfC).put nfoD nfoW nfoC

def bkD (bk : Bk) (bl : Addr) : List (Key × V) := [(Sum.inr "held", .str bk.held), (Sum.inr "each", .str bk.each), (Sum.inr "lifted", .str bk.lifted), (Sum.inr "ends", .str bk.ends), (Sum.inr "works", .str bk.works), (Sum.inr "bars", .ref bl)]
structure BkIn (bk : Bk) : Prop where
  m1 : bk.held ∈ (["home", "now"] : List Str)
  m2 : bk.each ∈ (["now", "program"] : List Str)
  m3 : bk.lifted ∈ (["nothing", "kept"] : List Str)
  m4 : bk.ends ∈ (["holder", "never", "scope"] : List Str)
  m5 : bk.works ∈ (["own", "same", "wait"] : List Str)
theorem strs_mem {x : V} {ws : List Str} (h : x ∈ ws.map V.str) : ∃ z, x = .str z ∧ z ∈ ws := by
  obtain ⟨z, hz, rfl⟩ := List.mem_map.mp h
  exact ⟨z, rfl, hz⟩
/-- one of a new list of texts -/
theorem pick_new {H : Hp} {D wl cl l : Addr} {m : Nat} {ws : List Str} {Q : VK} (dr : DrawAt H D wl cl (m + 1)) (hn : H l = none) (h0 : ws ≠ []) (hl : ws.length < 1000) (q : ∀ H' z, z ∈ ws → Keep D wl H H' → DrawAt H' D wl cl m → Q (.str z) H') :
    spPick K [.ref D, .ref l] (upd H l (.lst (ws.map V.str))) Q E0 :=
  ⟨D, wl, cl, m, l, ws.map V.str, rfl, .inl ⟨upd_same, (dr.fresh hn).2.1⟩, fun z => h0 (List.map_eq_nil_iff.mp z), by rw [List.length_map]; omega, dr.mono (Same.new hn), fun H' x hx k d => by
    obtain ⟨z, rfl, hz⟩ := strs_mem hx
    exact q H' z hz ((Same.keep (Same.new hn)).trans k) d⟩
def spFields : Sp := fun vs H Q _ => ∃ (D wl cl : Addr) (m : Nat), vs = [.ref D] ∧ DrawAt H D wl cl (m + 5) ∧ ∀ H' F bl bk, Keep D wl H H' → H F = none → H' F = some (.dK (bkD bk bl)) → H' bl = some (.lst []) → bl ≠ D ∧ bl ≠ wl → BkIn bk → DrawAt H' D wl cl m → Q (.ref F) H'
theorem ok__law_drawn_fields (F : FnP K "_law_drawn_fields" "_law_drawn_fields" s__law_drawn_fields f fd) (T : Txt K mg) (g__law_pick : GF P w K mg base 3 "_law_pick" P__law_pick (spPick K)) : FnOk P w K mg base CX0 4 f fd P__law_drawn_fields spFields := by
  refine okD F sc__law_drawn_fields (fun vs H Q E h => ?_) (fun cdv A outer s H vs Q E hr h => ?_)
  · obtain ⟨_, _, _, _, rfl, _⟩ := h; rfl
  · obtain ⟨D, wl, cl, m, rfl, dr, q⟩ := h
    have nd := sc__law_drawn_fields.nd
    refine ⟨_, pss_cons (ps_set (i := 1) nd rfl (Or.inl rfl) (pe_disp (pps_cons (pe_str) (pe_g g__law_pick hr (pa_cons (pv 0) (pa_cons (pe_lst (pa_cons (pe_str) (pa_cons (pe_str) (pa_cons (pe_str) pa_nil)))) pa_nil))) (pps_cons (pe_str) (pe_g g__law_pick hr (pa_cons (pv 0) (pa_cons (pe_lst (pa_cons (pe_str) (pa_cons (pe_str) (pa_cons (pe_str) pa_nil)))) pa_nil))) (pps_nil))) (by rfl) (by rfl) (fun z => by cases z) (by decide)))
    (pss_cons (ps_dput (hu_of hr) (pv 1) (pe_str) (pe_g g__law_pick hr (pa_cons (pv 0) (pa_cons (pe_lst (pa_cons (pe_str) (pa_cons (pe_str) pa_nil))) pa_nil))) rfl)
    (pss_cons (ps_dput (hu_of hr) (pv 1) (pe_str) (pe_g g__law_pick hr (pa_cons (pv 0) (pa_cons (pe_lst (pa_cons (pe_str) (pa_cons (pe_str) (pa_cons (pe_str) (pa_cons (pe_str) pa_nil))))) pa_nil))) rfl)
    (pss_cons (ps_dput (hu_of hr) (pv 1) (pe_str) (pe_g g__law_pick hr (pa_cons (pv 0) (pa_cons (pe_lst (pa_cons (pe_str) (pa_cons (pe_str) (pa_cons (pe_str) pa_nil)))) pa_nil))) rfl)
    (pss_cons (ps_dput (hu_of hr) (pv 1) (pe_str) (pe_lst (pa_nil)) rfl)
    (pss_one (ps_ret (pv 1))))))), ?_⟩
    intro F0 hF
    have s1 : Same H (upd H F0 (.dK [])) := Same.new hF
    obtain ⟨nFD, nFW, nFC⟩ := dr.fresh hF
    have hF1 : (upd H F0 (.dK [])) F0 = some (.dK []) := upd_same
    have dr1 := dr.mono s1
    have k1 : Keep D wl H (upd H F0 (.dK [])) := Same.keep s1
    generalize upd H F0 (.dK []) = H1 at s1 hF1 dr1 k1 ⊢
    refine ⟨_, rfl, by show 3 ≤ sizeLine; rw [sizeLine_eq]; decide, fun l1 hl1 => pick_new (K := K) (ws := ["home", "now", "now"]) dr1 hl1 (by decide) (by decide) fun H2 z1 hz1 k2 dr2 => ?_⟩
    have hF2 := k2 F0 _ nFD nFW hF1
    have k12 := k1.trans k2
    refine ⟨_, rfl, by show 3 ≤ sizeLine; rw [sizeLine_eq]; decide, fun l2 hl2 => pick_new (K := K) (ws := ["now", "now", "program"]) dr2 hl2 (by decide) (by decide) fun H3 z2 hz2 k3 dr3 => ?_⟩
    have hF3 := k3 F0 _ nFD nFW hF2
    have k13 := k12.trans k3
    refine ⟨hF3, ([(Sum.inr "held", .str z1), (Sum.inr "each", .str z2)] : List (Key × V)), rfl, (show 2 ≤ 15 by decide), ?_⟩
    rw [show mergeK [] ([(Sum.inr "held", .str z1), (Sum.inr "each", .str z2)] : List (Key × V)) = ([(Sum.inr "held", .str z1), (Sum.inr "each", .str z2)] : List (Key × V)) from rfl]
    have hF4 : (upd H3 F0 (.dK [(Sum.inr "held", .str z1), (Sum.inr "each", .str z2)])) F0 = some (.dK [(Sum.inr "held", .str z1), (Sum.inr "each", .str z2)]) := upd_same
    have k4 := k13.put (o := .dK [(Sum.inr "held", .str z1), (Sum.inr "each", .str z2)]) hF
    have dr4 := dr3.put (o := .dK [(Sum.inr "held", .str z1), (Sum.inr "each", .str z2)]) nFD nFW nFC
    generalize upd H3 F0 (.dK [(Sum.inr "held", .str z1), (Sum.inr "each", .str z2)]) = H4 at hF4 k4 dr4 ⊢
    refine ⟨_, rfl, by show 2 ≤ sizeLine; rw [sizeLine_eq]; decide, fun l3 hl3 => pick_new (K := K) (ws := ["nothing", "kept"]) dr4 hl3 (by decide) (by decide) fun H5 z3 hz3 k5 dr5 => ?_⟩
    have hF5 := k5 F0 _ nFD nFW hF4
    refine ⟨_, rfl, _, _, rfl, DPut.k (k := Sum.inr "lifted") hF5 (by show 2 < sizeLine; rw [sizeLine_eq]; decide), ?_⟩
    rw [show putK ([(Sum.inr "held", .str z1), (Sum.inr "each", .str z2)] : List (Key × V)) (Sum.inr "lifted") (.str z3) = ([(Sum.inr "held", .str z1), (Sum.inr "each", .str z2), (Sum.inr "lifted", .str z3)] : List (Key × V)) from rfl]
    have hF6 : (upd H5 F0 (.dK [(Sum.inr "held", .str z1), (Sum.inr "each", .str z2), (Sum.inr "lifted", .str z3)])) F0 = some (.dK [(Sum.inr "held", .str z1), (Sum.inr "each", .str z2), (Sum.inr "lifted", .str z3)]) := upd_same
    have k6 := (k4.trans k5).put (o := .dK [(Sum.inr "held", .str z1), (Sum.inr "each", .str z2), (Sum.inr "lifted", .str z3)]) hF
    have dr6 := dr5.put (o := .dK [(Sum.inr "held", .str z1), (Sum.inr "each", .str z2), (Sum.inr "lifted", .str z3)]) nFD nFW nFC
    generalize upd H5 F0 (.dK [(Sum.inr "held", .str z1), (Sum.inr "each", .str z2), (Sum.inr "lifted", .str z3)]) = H6 at hF6 k6 dr6 ⊢
    refine ⟨_, rfl, by show 4 ≤ sizeLine; rw [sizeLine_eq]; decide, fun l4 hl4 => pick_new (K := K) (ws := ["holder", "never", "scope", "scope"]) dr6 hl4 (by decide) (by decide) fun H7 z4 hz4 k7 dr7 => ?_⟩
    have hF7 := k7 F0 _ nFD nFW hF6
    refine ⟨_, rfl, _, _, rfl, DPut.k (k := Sum.inr "ends") hF7 (by show 3 < sizeLine; rw [sizeLine_eq]; decide), ?_⟩
    rw [show putK ([(Sum.inr "held", .str z1), (Sum.inr "each", .str z2), (Sum.inr "lifted", .str z3)] : List (Key × V)) (Sum.inr "ends") (.str z4) = ([(Sum.inr "held", .str z1), (Sum.inr "each", .str z2), (Sum.inr "lifted", .str z3), (Sum.inr "ends", .str z4)] : List (Key × V)) from rfl]
    have hF8 : (upd H7 F0 (.dK [(Sum.inr "held", .str z1), (Sum.inr "each", .str z2), (Sum.inr "lifted", .str z3), (Sum.inr "ends", .str z4)])) F0 = some (.dK [(Sum.inr "held", .str z1), (Sum.inr "each", .str z2), (Sum.inr "lifted", .str z3), (Sum.inr "ends", .str z4)]) := upd_same
    have k8 := (k6.trans k7).put (o := .dK [(Sum.inr "held", .str z1), (Sum.inr "each", .str z2), (Sum.inr "lifted", .str z3), (Sum.inr "ends", .str z4)]) hF
    have dr8 := dr7.put (o := .dK [(Sum.inr "held", .str z1), (Sum.inr "each", .str z2), (Sum.inr "lifted", .str z3), (Sum.inr "ends", .str z4)]) nFD nFW nFC
    generalize upd H7 F0 (.dK [(Sum.inr "held", .str z1), (Sum.inr "each", .str z2), (Sum.inr "lifted", .str z3), (Sum.inr "ends", .str z4)]) = H8 at hF8 k8 dr8 ⊢
    refine ⟨_, rfl, by show 3 ≤ sizeLine; rw [sizeLine_eq]; decide, fun l5 hl5 => pick_new (K := K) (ws := ["own", "same", "wait"]) dr8 hl5 (by decide) (by decide) fun H9 z5 hz5 k9 dr9 => ?_⟩
    have hF9 := k9 F0 _ nFD nFW hF8
    refine ⟨_, rfl, _, _, rfl, DPut.k (k := Sum.inr "works") hF9 (by show 4 < sizeLine; rw [sizeLine_eq]; decide), ?_⟩
    rw [show putK ([(Sum.inr "held", .str z1), (Sum.inr "each", .str z2), (Sum.inr "lifted", .str z3), (Sum.inr "ends", .str z4)] : List (Key × V)) (Sum.inr "works") (.str z5) = ([(Sum.inr "held", .str z1), (Sum.inr "each", .str z2), (Sum.inr "lifted", .str z3), (Sum.inr "ends", .str z4), (Sum.inr "works", .str z5)] : List (Key × V)) from rfl]
    have hF10 : (upd H9 F0 (.dK [(Sum.inr "held", .str z1), (Sum.inr "each", .str z2), (Sum.inr "lifted", .str z3), (Sum.inr "ends", .str z4), (Sum.inr "works", .str z5)])) F0 = some (.dK [(Sum.inr "held", .str z1), (Sum.inr "each", .str z2), (Sum.inr "lifted", .str z3), (Sum.inr "ends", .str z4), (Sum.inr "works", .str z5)]) := upd_same
    have k10 := (k8.trans k9).put (o := .dK [(Sum.inr "held", .str z1), (Sum.inr "each", .str z2), (Sum.inr "lifted", .str z3), (Sum.inr "ends", .str z4), (Sum.inr "works", .str z5)]) hF
    have dr10 := dr9.put (o := .dK [(Sum.inr "held", .str z1), (Sum.inr "each", .str z2), (Sum.inr "lifted", .str z3), (Sum.inr "ends", .str z4), (Sum.inr "works", .str z5)]) nFD nFW nFC
    generalize upd H9 F0 (.dK [(Sum.inr "held", .str z1), (Sum.inr "each", .str z2), (Sum.inr "lifted", .str z3), (Sum.inr "ends", .str z4), (Sum.inr "works", .str z5)]) = H10 at hF10 k10 dr10 ⊢
    refine ⟨Nat.zero_le _, fun bl hbl => ?_⟩
    have s11 : Same H10 (upd H10 bl (.lst [])) := Same.new hbl
    have hF11 := s11 _ _ hF10
    obtain ⟨nBD, nBW, _⟩ := dr10.fresh hbl
    have nbF : bl ≠ F0 := fun z => by rw [z, hF10] at hbl; cases hbl
    have hb11 : (upd H10 bl (.lst [])) bl = some (.lst []) := upd_same
    have k11 := k10.trans (Same.keep s11)
    have dr11 := dr10.mono s11
    generalize upd H10 bl (.lst []) = H11 at hF11 hb11 k11 dr11 ⊢
    refine ⟨_, rfl, _, _, rfl, DPut.k (k := Sum.inr "bars") hF11 (by show 5 < sizeLine; rw [sizeLine_eq]; decide), _, rfl, ?_⟩
    have sub : ∀ {z : Str} {a b : List Str}, (∀ y ∈ a, y ∈ b) → z ∈ a → z ∈ b := fun h hz => h _ hz
    exact q _ F0 bl ⟨z1, z2, z3, z4, z5⟩ (k11.put hF) hF upd_same (by rw [upd_ne nbF]; exact hb11) ⟨nBD, nBW⟩ ⟨sub (by decide) hz1, sub (by decide) hz2, hz3, sub (by decide) hz4, hz5⟩ (dr11.put nFD nFW nFC)
end
end K94
set_option maxHeartbeats 4000000
/-! the law's book and parts -/
namespace K94
open PySem PySem.Spec PyProof.Rows L2 StX
def bkKs : List Str := ["held", "each", "lifted", "ends", "works", "bars"]
section
variable {P : Program} {w : World} {K : PySem.W.Frag} {mg : Str → Option Value} {base : Heap} {f : Addr} {fd : FuncData}
/-- the class Book, made by keywords -/
def GBk (P : Program) (w : World) (K : PySem.W.Frag) (mg : Str → Option Value) (base : Heap) (k : Nat) : Prop := ∃ f fd, FnOk P w K mg base CX0 k f fd P_Book___init__ (spBookInit K) ∧ mg "Book" = some (.ref (CBook K)) ∧ Mk K (CBook K) f ∧
  ∃ g : List Value → List Value → List Value, KBn K fd P_Book___init__ 1 ["held", "each", "lifted", "ends", "works", "bars"] g (fun vs zs => vs ++ zs)
def spBookOf (K : PySem.W.Frag) : Sp := fun vs H Q _ => ∃ (F bl : Addr) (bk : Bk), vs = [.ref F] ∧ H F = some (.dK (bkD bk bl)) ∧ H bl = some (.lst []) ∧ BkIn bk ∧ ∀ H' b dx tb, Same H H' → BookAt K H' b bk dx tb → Q (.ref b) H'
theorem ok__law_book (F : FnP K "_law_book" "_law_book" s__law_book f fd) (T : Txt K mg) (k_Book : GBk P w K mg base 5) : FnOk P w K mg base CX0 7 f fd P__law_book (spBookOf K) := by
  refine okD F sc__law_book (fun vs H Q E h => ?_) (fun cdv A outer s H vs Q E hr h => ?_)
  · obtain ⟨_, _, _, rfl, _⟩ := h; rfl
  · obtain ⟨F0, bl, bk, rfl, hF, hbl, bi, q⟩ := h
    have nd := sc__law_book.nd
    obtain ⟨fb, fdb, GB, gb, mk, g, kb⟩ := k_Book
    refine ⟨_, pss_cons (ps_set (i := 1) nd rfl (Or.inl rfl) (pe_lst (pa_cons (pe_dget (hu_of hr) (pv 0) (pe_str) (fun _ _ => rfl)) pa_nil)))
    (pss_one (ps_ret (pe_makeK0 mk GB (hr.mono (by decide)) (by rfl) gb kb pass0 (pk_cons (pe_dget (hu_of hr) (pv 0) (pe_str) (fun _ _ => rfl)) (pk_cons (pe_dget (hu_of hr) (pv 0) (pe_str) (fun _ _ => rfl)) (pk_cons (pe_dget (hu_of hr) (pv 0) (pe_str) (fun _ _ => rfl)) (pk_cons (pe_dget (hu_of hr) (pv 0) (pe_str) (fun _ _ => rfl)) (pk_cons (pe_dget (hu_of hr) (pv 0) (pe_str) (fun _ _ => rfl)) (pk_cons (pe_ix ix_list (pv 1) (pe_int) (fun _ _ => rfl)) pk_nil))))))))), ?_⟩
    refine ⟨_, rfl, _, _, rfl, dget_s' hF rfl, by show 1 ≤ sizeLine; rw [sizeLine_eq]; decide, fun l hl => ?_⟩
    have s1 : Same H (upd H l (.lst [.ref bl])) := Same.new hl
    have hF1 := s1 _ _ hF
    have hbl1 := s1 _ _ hbl
    have hl1 : (upd H l (.lst [.ref bl])) l = some (.lst [.ref bl]) := upd_same
    generalize upd H l (.lst [.ref bl]) = H1 at s1 hF1 hbl1 hl1 ⊢
    refine ⟨_, rfl, _, _, rfl, dget_s' hF1 rfl, _, rfl, _, _, rfl, dget_s' hF1 rfl, _, rfl, _, _, rfl, dget_s' hF1 rfl, _, rfl, _, _, rfl, dget_s' hF1 rfl, _, rfl, _, _, rfl, dget_s' hF1 rfl, _, rfl, l, _, 0, _, rfl, rfl, SqL.of hl1, rfl, rfl, rfl, fun x dx nx ndx hne => ?_⟩
    have s2 : Same H1 (upd (upd H1 dx (.own x)) x (.ins (CBook K) dx [])) := (Same.new ndx).trans (Same.new (by rw [upd_ne (Ne.symm hne)]; exact nx))
    exact ⟨x, dx, bk, bl, H1, rfl, s2, nx, upd_same, s2 _ _ hbl1, bi.m1, bi.m2, bi.m3, bi.m4, bi.m5, fun H' tb s3 hb => ⟨rfl, q H' x dx tb (s1.trans s3) hb⟩⟩
/-- the parts as the law draws them: name -> (life, wants) -/
def MdlAt (H : Hp) (v : V) (p : Prt) : Prop := ∃ a tw ws, v = .ref a ∧ H a = some (.tup [.int p.life, .ref tw]) ∧ H tw = some (.tup ws) ∧ Paired (WantAt H) ws p.wants
theorem MdlAt.mono {H H' : Hp} (s : Tups H H') {v : V} {p : Prt} (h : MdlAt H v p) : MdlAt H' v p := by
  obtain ⟨a, tw, ws, e, h1, h2, h3⟩ := h
  exact ⟨a, tw, ws, e, s _ _ h1, s _ _ h2, Paired.mono (fun _ _ z => z.mono s) h3⟩
/-- the dict d: names in order, what stands at each -/
def PairsAt (F : V → Prt → Prop) (kvs : List (Key × V)) (L : PL) : Prop := Paired (fun (kv : Key × V) (e : Str × Prt) => kv.1 = Sum.inr e.1 ∧ F kv.2 e.2) kvs L
theorem PairsAt.keys {F : V → Prt → Prop} : ∀ {kvs : List (Key × V)} {L : PL}, PairsAt F kvs L → kvs.map (·.1) = (L.map (·.1)).map Sum.inr
  | _, _, .nil => rfl
  | _, _, .cons h t => by rw [List.map_cons, List.map_cons, List.map_cons, h.1, PairsAt.keys t]
theorem PairsAt.some {F : V → Prt → Prop} : ∀ {kvs : List (Key × V)} {L : PL} {n : Str} {p : Prt}, PairsAt F kvs L → getL L n = some p → ∃ v, valV kvs (Sum.inr n) = some v ∧ F v p
  | _, _, _, _, .nil, h => by cases h
  | kv :: kvs, e :: L, n, p, .cons h t, hp => by
    by_cases q : e.1 = n
    · have : getL (e :: L) n = Option.some e.2 := by unfold getL; rw [List.find?_cons, decide_eq_true q]; rfl
      rw [this] at hp
      cases hp
      exact ⟨kv.2, valV_pos (by rw [h.1, q]), h.2⟩
    · have : getL (e :: L) n = getL L n := by unfold getL; rw [List.find?_cons, decide_eq_false q]
      rw [this] at hp
      obtain ⟨v, h1, h2⟩ := PairsAt.some t hp
      exact ⟨v, by rw [valV_neg (by rw [h.1]; exact fun z => q (Sum.inr.inj z))]; exact h1, h2⟩
theorem PairsAt.none {F : V → Prt → Prop} : ∀ {kvs : List (Key × V)} {L : PL} {n : Str}, PairsAt F kvs L → getL L n = none → valV kvs (Sum.inr n) = none
  | _, _, _, .nil, h => rfl
  | kv :: kvs, e :: L, n, .cons h t, hp => by
    by_cases q : e.1 = n
    · have : getL (e :: L) n = Option.some e.2 := by unfold getL; rw [List.find?_cons, decide_eq_true q]; rfl
      rw [this] at hp
      cases hp
    · have : getL (e :: L) n = getL L n := by unfold getL; rw [List.find?_cons, decide_eq_false q]
      rw [this] at hp
      rw [valV_neg (by rw [h.1]; exact fun z => q (Sum.inr.inj z))]
      exact PairsAt.none t hp
theorem PairsAt.val {F : V → Prt → Prop} : ∀ {kvs : List (Key × V)} {L : PL} {i : Nat} {kv : Key × V} {e : Str × Prt}, PairsAt F kvs L → (L.map (·.1)).Nodup → kvs[i]? = Option.some kv → L[i]? = Option.some e → valV kvs (Sum.inr e.1) = Option.some kv.2
  | _, _, _, _, _, .nil, _, h, _ => by simp at h
  | a :: kvs, b :: L, 0, kv, e, .cons h t, _, h1, h2 => by
    simp at h1 h2
    subst h1 h2
    exact valV_pos h.1
  | a :: kvs, b :: L, i + 1, kv, e, .cons h t, hd, h1, h2 => by
    have h1 : kvs[i]? = Option.some kv := by simpa using h1
    have h2 : L[i]? = Option.some e := by simpa using h2
    obtain ⟨n1, n2⟩ := List.nodup_cons.mp hd
    have hne : b.1 ≠ e.1 := fun z => n1 (by show b.1 ∈ L.map (·.1); rw [z]; exact List.mem_map_of_mem (List.mem_of_getElem? h2))
    rw [valV_neg (by rw [h.1]; exact fun z => hne (Sum.inr.inj z))]
    exact PairsAt.val t n2 h1 h2
theorem PartAt.wr {K : PySem.W.Frag} {H : Hp} {D : Addr} {kvs kvs' : List (Key × V)} {v : V} {p : Prt} (h : H D = some (.dK kvs)) (hp : PartAt K H v p) : PartAt K (upd H D (.dK kvs')) v p := by
  obtain ⟨a, dx, tw, ws, e, h1, h2, h3⟩ := hp
  have tu : Tups H (upd H D (.dK kvs')) := Tups.wr h True.intro
  exact ⟨a, dx, tw, ws, e, by rw [upd_ne (ne_of h1 h (by intro z; cases z))]; exact h1, tu _ _ h2, Paired.mono (fun _ _ z => z.mono tu) h3⟩
theorem PairsAt.new {F : V → Prt → Prop} {kvs : List (Key × V)} {L : PL} (h : PairsAt F kvs L) {n : Str} {p : Prt} {v : V} (hn : n ∉ L.map (·.1)) (hf : F v p) : PairsAt F (putK kvs (Sum.inr n) v) (L ++ [(n, p)]) := by
  have e : getL L n = Option.none := by
    cases q : getL L n with
    | none => rfl
    | some p => exact absurd (getL_mem.mp (by rw [q]; rfl)) hn
  rw [putK_new _ (h.none e)]
  exact Paired.snoc ⟨rfl, hf⟩ h
def spPartsOf (K : PySem.W.Frag) : Sp := fun vs H Q _ => ∃ (dp : Nat) (d : Addr) (L : PL) (kvs : List (Key × V)), vs = [.int (dp : Nat), .ref d] ∧ H d = some (.dK kvs) ∧ PairsAt (MdlAt H) kvs L ∧ LOk dp L ∧
  ∀ H' pa (ys : List Str) dx gd kvs', Same H H' → ys.Perm (L.map (·.1)) → PartsAt K H' pa (mkPM dp L ys) dx gd kvs' → Q (.ref pa) H'
theorem ok__law_parts (F : FnP K "_law_parts" "_law_parts" s__law_parts f fd) (T : Txt K mg) (k_Part : GC P w K mg base 5 "Part" (CPart K) P_Part___init__ (spPartInit K)) (k_Parts : GC P w K mg base 5 "Parts" (CParts K) P_Parts___init__ (spPartsInit K)) : FnOk P w K mg base CX0 7 f fd P__law_parts (spPartsOf K) := by
  refine okD F sc__law_parts (fun vs H Q E h => ?_) (fun cdv A outer s H vs Q E hr h => ?_)
  · obtain ⟨_, _, _, _, rfl, _⟩ := h; rfl
  · obtain ⟨dp, d, L, kvs, rfl, hd, hpr, lo, q⟩ := h
    have nd := sc__law_parts.nd
    refine ⟨_, pss_cons (ps_set (i := 2) nd rfl (Or.inl rfl) (pe_dnewK))
    (pss_cons (ps_lock (ps_for PassesOwn.never rfl (pi_keys (pv 1)) (pg_name (i := 3) nd rfl (Or.inl rfl))
      (pss_cons (ps_asg (pe_dget (hu_of hr) (pv 1) (pv 3) (fun _ _ => rfl)) (pg_tup rfl (pgs_cons (pg_name (i := 4) nd rfl (Or.inl rfl)) (pgs_cons (pg_name (i := 5) nd rfl (Or.inl rfl)) pgs_nil))))
      (pss_one (ps_dput (hu_of hr) (pv 2) (pv 3) (pe_c k_Part (hr.mono (by decide)) (pa_cons (pv 4) (pa_cons (pv 5) pa_nil))) rfl)))))
    (pss_one (ps_ret (pe_c k_Parts (hr.mono (by decide)) (pa_cons (pv 0) (pa_cons (pv 2) pa_nil)))))), ?_⟩
    intro D0 hD0
    have s1 : Same H (upd H D0 (.dK [])) := Same.new hD0
    have hD1 : (upd H D0 (.dK [])) D0 = some (.dK []) := upd_same
    have hd1 := s1 _ _ hd
    have ndD : D0 ≠ d := fun z => by rw [z, hd] at hD0; cases hD0
    generalize hH1 : upd H D0 (.dK []) = H1 at s1 hD1 hd1 ⊢
    refine ⟨d, _, hd1, True.intro, fun od => ?_⟩
    have tu0 : Tups H (upd H1 d (.frz od (.dK kvs))) := (Same.tups s1).trans (Tups.wr hd1 True.intro)
    refine ⟨_, rfl, d, od, rfl, .inl ⟨kvs, upd_same, for_it walk_keys (fun i σ H' => ∃ (v3 v4 v5 : Option V) (kvs2 : List (Key × V)), σ = [some (.int (dp : Nat)), some (.ref d), some (.ref D0), v3, v4, v5] ∧ H' d = some (.frz od (.dK kvs)) ∧ (∀ b o, b ≠ d → H b = some o → H' b = some o) ∧ H' D0 = some (.dK kvs2) ∧ PairsAt (PartAt K H') kvs2 (L.take i))
      ⟨none, none, none, [], rfl, upd_same, fun b o hb e => by rw [upd_ne hb]; exact s1 b o e, by rw [upd_ne ndD]; exact hD1, .nil⟩ (fun i σ H' _ h => by obtain ⟨_, _, _, _, _, h1, _⟩ := h; exact h1) ?_ ?_⟩⟩
    · rintro i x σ H' H'' hi ⟨v3, v4, v5, kvs2, rfl, h1, h2, h3, h4⟩ ⟨rfl, k, v, hkv, rfl⟩
      obtain ⟨e, he, hk, a, tw, ws, hv, ha, htw, hws⟩ := Paired.get hpr hkv
      obtain ⟨n, p⟩ := e
      have hk : k = Sum.inr n := hk
      have hv : v = .ref a := hv
      subst hk hv
      have nda : a ≠ d := ne_of ha hd (by intro z; cases z)
      have ndt : tw ≠ d := ne_of htw hd (by intro z; cases z)
      have ha2 := h2 _ _ nda ha
      have htw2 := h2 _ _ ndt htw
      have hws2 : Paired (WantAt H'') ws p.wants := Paired.mono (fun v w z => by
        obtain ⟨b, e1, e2⟩ := z
        exact ⟨b, e1, h2 _ _ (ne_of e2 hd (by intro z; cases z)) e2⟩) hws
      have hL := List.mem_of_getElem? he
      have hlife := lo.life _ hL
      have dg : DGet H'' d (.str n) (some (.ref a)) := dget_fs h1 (by
        exact hpr.val lo.nd hkv he)
      refine ⟨_, rfl, _, rfl, _, _, rfl, dg, a, _, rfl, SqT.of ha2, rfl, _, _, rfl, _, _, rfl, rfl, _, rfl, _, rfl, ?_⟩
      intro y dy ny ndy hne
      have s2 : Same H'' (upd (upd H'' dy (.own y)) y (.ins (CPart K) dy [])) := (Same.new ndy).trans (Same.new (by rw [upd_ne (Ne.symm hne)]; exact ny))
      have hfew := lo.few (getL_at lo.nd he)
      have h6 := lo.l6
      have d3 := lo.d3
      have hlk := fun (w : Bool × Str) (hw : w ∈ p.wants) => lo.want (getL_at lo.nd he) hw
      refine ⟨y, dy, tw, ws, p, H'', rfl, s2, ny, upd_same, htw2, hws2, fun w hw => lo.letN (hlk w hw).1, lo.wnd _ hL, ?_, hlife.1, by have : p.life ≤ dp := hlife.2; omega, fun H3 s3 hpa => ⟨rfl, ?_⟩⟩
      · have h5 : rkL L n ≤ 5 := by show L.length - 1 - _ ≤ 5; omega
        have hfew : p.wants.length ≤ rkL L n := hfew
        omega
      have hD3 := s3 _ _ h3
      have hl3 : kvs2.length < 1000 := by rw [Paired.length h4, List.length_take]; omega
      refine ⟨_, rfl, _, rfl, _, _, rfl, DPut.k (k := Sum.inr n) hD3 (small1000 (by omega)), _, _, _, _, rfl, by rw [upd_ne (Ne.symm ndD)]; exact s3 _ _ h1, fun b o hb e => ?_, upd_same, ?_⟩
      · rw [upd_ne (ne_of_none e hD0)]
        exact s3 _ _ (h2 b o hb e)
      · rw [List.take_add_one, he]
        have hnin : n ∉ (L.take i).map (·.1) := by
          rw [List.map_take]
          exact nodup_take lo.nd (by rw [List.getElem?_map, he]; rfl)
        exact PairsAt.new (Paired.mono (fun kv e z => ⟨z.1, PartAt.wr hD3 (z.2.mono s3)⟩) h4) hnin (PartAt.wr hD3 hpa)
    · rintro σ H2 ⟨v3, v4, v5, kvs2, rfl, h1, h2, h3, h4⟩
      refine ⟨h1, ?_⟩
      rw [Paired.length hpr, List.take_length] at h4
      have sU : Same H (upd H2 d (.dK kvs)) := fun b o e => by
        by_cases hb : b = d
        · subst hb
          rw [upd_same, ← e, hd]
        · rw [upd_ne hb]
          exact h2 b o hb e
      have hDU : (upd H2 d (.dK kvs)) D0 = some (.dK kvs2) := by rw [upd_ne ndD]; exact h3
      have h4U : PairsAt (PartAt K (upd H2 d (.dK kvs))) kvs2 L := Paired.mono (fun kv e z => ⟨z.1, by
        obtain ⟨a, dx, tw, ws, e1, e2, e3, e4⟩ := z.2
        have nda : a ≠ d := ne_of e2 h1 (by intro z; cases z)
        have ndt : tw ≠ d := ne_of e3 h1 (by intro z; cases z)
        exact ⟨a, dx, tw, ws, e1, by rw [upd_ne nda]; exact e2, by rw [upd_ne ndt]; exact e3, Paired.mono (fun v w z => by
          obtain ⟨b, f1, f2⟩ := z
          exact ⟨b, f1, by rw [upd_ne (ne_of f2 h1 (by intro z; cases z))]; exact f2⟩) e4⟩⟩) h4
      generalize upd H2 d (.dK kvs) = H3 at sU hDU h4U ⊢
      refine ⟨_, rfl, _, rfl, fun x dx nx ndx hne => ?_⟩
      have s5 : Same H3 (upd (upd H3 dx (.own x)) x (.ins (CParts K) dx [])) := (Same.new ndx).trans (Same.new (by rw [upd_ne (Ne.symm hne)]; exact nx))
      exact ⟨x, dx, dp, D0, L, kvs2, H3, rfl, s5, nx, upd_same, ⟨hDU, h4U.keys, fun n p e => h4U.some e, fun n e => h4U.none e⟩, lo, fun H' ys gd kvs' s6 hp hpt => ⟨rfl, q H' x ys dx gd kvs' (sU.trans s6) hp hpt⟩⟩
end
end K94
set_option maxHeartbeats 4000000
/-! the law's small parts -/
namespace K94
open PySem PySem.Spec PyProof.Rows L2 StX
def nmS (j : Nat) : Str := ⟨(#[97, 98, 99, 100, 101, 102] : Array Nat).extract 0 j⟩
theorem nm_cut : ∀ v, v < 6 → cutS "abcdefg" none (some (1 + (v : Nat))) = nmS (v + 1) := by decide +kernel
theorem nm_len : ∀ j, j < 7 → (nmS j).length = j := by decide +kernel
theorem nm_rest : ∀ j, j < 7 → ∀ k, k < j → (cutS (nmS j) (some ((k : Nat) + 1)) none).cps.toList.map (fun c => (⟨#[c]⟩ : Str)) = (lets.take j).drop (k + 1) := by decide +kernel
theorem nm_at : ∀ j, j < 7 → ∀ k, k < j → ∃ c, atI (nmS j).cps.toList (k : Nat) = some c ∧ (lets.take j)[k]? = some (⟨#[c]⟩ : Str) := by
  intro j hj k hk
  have h : ∀ j, j < 7 → ∀ k, k < j → (atI (nmS j).cps.toList (k : Nat)).map (fun c => (⟨#[c]⟩ : Str)) = (lets.take j)[k]? ∧ ((lets.take j)[k]?).isSome = true := by decide +kernel
  obtain ⟨h1, h2⟩ := h j hj k hk
  cases e : atI (nmS j).cps.toList (k : Nat) with
  | none => rw [e] at h1; rw [← h1] at h2; cases h2
  | some c => rw [e] at h1; exact ⟨c, rfl, h1.symm⟩
theorem lets_nd : lets.Nodup := by decide
theorem take_len {j : Nat} (h : j < 7) : (lets.take j).length = j := by
  rw [List.length_take]
  show min j 6 = j
  omega
/-- the parts made so far: the first k of the names, each wants later ones -/
structure SInv (d j k : Nat) (L : PL) : Prop where
  nm : L.map (·.1) = (lets.take j).take k
  wnd : ∀ e ∈ L, (e.2.wants.map (·.2)).Nodup
  life : ∀ e ∈ L, -1 ≤ e.2.life ∧ e.2.life ≤ d
  dn : ∀ (i : Nat) (e : Str × Prt), L[i]? = some e → ∀ w ∈ e.2.wants, w.2 ∈ (lets.take j).drop (i + 1)
theorem SInv.zero (d j : Nat) : SInv d j 0 [] := ⟨rfl, (fun _ h => nomatch h), (fun _ h => nomatch h), fun i e h => by simp at h⟩
theorem SInv.step {d j k : Nat} {L : PL} (h : SInv d j k L) {n : Str} {p : Prt} (hn : (lets.take j)[k]? = some n) (h1 : (p.wants.map (·.2)).Nodup) (h2 : -1 ≤ p.life ∧ p.life ≤ d) (h3 : ∀ w ∈ p.wants, w.2 ∈ (lets.take j).drop (k + 1)) : SInv d j (k + 1) (L ++ [(n, p)]) := by
  have hl : L.length = k := by
    have h4 := congrArg List.length h.nm
    have h5 := (List.getElem?_eq_some_iff.mp hn).1
    rw [List.length_map, List.length_take] at h4
    omega
  refine ⟨by rw [List.map_append, h.nm, List.take_add_one, hn]; rfl, fun e he => ?_, fun e he => ?_, fun i e he => ?_⟩
  · rcases List.mem_append.mp he with z | z
    · exact h.wnd e z
    · rw [List.mem_singleton.mp z]; exact h1
  · rcases List.mem_append.mp he with z | z
    · exact h.life e z
    · rw [List.mem_singleton.mp z]; exact h2
  · by_cases q : i < L.length
    · rw [List.getElem?_append_left q] at he
      exact h.dn i e he
    · rw [List.getElem?_append_right (by omega)] at he
      have q2 : i - L.length < 1 := (List.getElem?_eq_some_iff.mp he).1
      have q3 : i = k := by omega
      subst q3
      rw [hl, Nat.sub_self] at he
      simp at he
      subst he
      exact h3
theorem SInv.lok {d j : Nat} {L : PL} (h : SInv d j j L) (d1 : 1 ≤ d) (d3 : d ≤ 3) (j1 : 1 ≤ j) (j6 : j < 7) : LOk d L := by
  have hnm : L.map (·.1) = lets.take j := by rw [h.nm, List.take_of_length_le (by rw [take_len j6]; exact Nat.le_refl _)]
  have hl : L.length = j := by
    have := congrArg List.length hnm
    rw [List.length_map, take_len j6] at this
    exact this
  have hnd : (lets.take j).Nodup := lets_nd.sublist (List.take_sublist _ _)
  refine ⟨d1, d3, by rw [hnm]; exact hnd, fun e he => ?_, by omega, by omega, h.life, h.wnd, fun i e he w hw => ?_⟩
  · have : e.1 ∈ L.map (·.1) := List.mem_map_of_mem he
    rw [hnm] at this
    exact List.mem_of_mem_take this
  · have h3 := h.dn i e he w hw
    obtain ⟨q, hq⟩ := List.getElem?_of_mem h3
    rw [List.getElem?_drop, ← hnm, List.getElem?_map] at hq
    obtain ⟨e', he', en⟩ := Option.map_eq_some_iff.mp hq
    exact ⟨i + 1 + q, e', by omega, he', en⟩
theorem Keep.tups {H H' : Hp} {D wl cl : Addr} {n : Nat} (d : DrawAt H D wl cl n) (k : Keep D wl H H') : Tups H H' := fun a xs e => by
  obtain ⟨n1, n2⟩ := d.apart e (fun _ z => by cases z) (fun _ z => by cases z)
  exact k a _ n1 n2 e
theorem way_of {z : Str} (h : z ∈ (["held", "held", "each"] : List Str)) : ∃ b, z = wayS b := by
  simp only [List.mem_cons, List.not_mem_nil, or_false] at h
  rcases h with rfl | rfl | rfl
  · exact ⟨true, rfl⟩
  · exact ⟨true, rfl⟩
  · exact ⟨false, rfl⟩
section
variable {P : Program} {w : World} {K : PySem.W.Frag} {mg : Str → Option Value} {base : Heap} {f : Addr} {fd : FuncData}
def spSmall : Sp := fun vs H Q _ => ∃ (D wl cl : Addr) (m dp : Nat), vs = [.ref D, .int (dp : Nat), .int 6] ∧ 1 ≤ dp ∧ dp ≤ 3 ∧ DrawAt H D wl cl (m + 200) ∧ ∀ H' d kvs L, Keep D wl H H' → H d = none → H' d = some (.dK kvs) → PairsAt (MdlAt H') kvs L → LOk dp L → DrawAt H' D wl cl m → Q (.ref d) H'
theorem ok__law_small_parts (F : FnP K "_law_small_parts" "_law_small_parts" s__law_small_parts f fd) (T : Txt K mg) (g__law_take : GF P w K mg base 2 "_law_take" P__law_take spTake) (g__law_pick : GF P w K mg base 3 "_law_pick" P__law_pick (spPick K)) (g__law_shuffled : GF P w K mg base 3 "_law_shuffled" P__law_shuffled spShuffled) :
    FnOk P w K mg base CX0 5 f fd P__law_small_parts spSmall := by
  refine okD F sc__law_small_parts (fun vs H Q E h => ?_) (fun cdv A outer s H vs Q E hr h => ?_)
  · obtain ⟨_, _, _, _, _, rfl, _⟩ := h; rfl
  · obtain ⟨D, wl, cl, m, dp, rfl, d1, d3, dr, q⟩ := h
    have nd := sc__law_small_parts.nd
    refine ⟨_, pss_cons (ps_par (i := 3) (j := 4) (by rfl) nd rfl rfl (by decide) rfl rfl (pa_cons (pe_dnewK) (pa_cons (pe_slice sl_str (pe_str) po_none (po_some (pe_op op_add (pe_int) (pe_g g__law_take (hr.mono (by decide)) (pa_cons (pv 0) (pa_cons (pv 2) pa_nil)))))) pa_nil)) (by rfl))
    (pss_cons (ps_for PassesOwn.never rfl (pi_range1 (by rfl) T.f_range (pa_cons (pe_callB call_len_str (by rfl) T.f_len (by decide +kernel) (pa_cons (pv 4) pa_nil)) pa_nil)) (pg_name (i := 5) nd rfl (Or.inl rfl))
      (pss_cons (ps_setLc (i := 6) (own := [("_law_name", 8)]) (g := gName 8) rfl nd rfl rfl (sw_true rfl rfl rfl (by decide +kernel)) (pi_str (pe_slice sl_str (pv 4) (po_some (pe_op op_add (pv 5) (pe_int))) po_none)) (blkOk_by (N := N__law_small_parts) (sc := defScope s__law_small_parts) (own := [("_law_name", 8)]) (by decide +kernel)) (fun _ _ _ _ _ => pg_name (i := 8) nd rfl (Or.inl rfl)) (fun _ _ _ _ _ => pts_one (pt_cmpR op_gt (pe_g g__law_take (hr.mono (by decide)) (pa_cons (pv 0) (pa_cons (pe_int) pa_nil))) (pe_int) (nomark _))) (fun _ _ _ _ _ => pv 8))
      (pss_cons (ps_setLc (i := 7) (own := [("_law_name", 8)]) (g := gName 8) rfl nd rfl rfl (sw_true rfl rfl rfl (by decide +kernel)) (pi_list (pe_g g__law_shuffled (hr.mono (by decide)) (pa_cons (pv 0) (pa_cons (pv 6) pa_nil)))) (blkOk_by (N := N__law_small_parts) (sc := defScope s__law_small_parts) (own := [("_law_name", 8)]) (by decide +kernel)) (fun _ _ _ _ _ => pg_name (i := 8) nd rfl (Or.inl rfl)) (fun _ _ _ _ _ => pts_nil) (fun _ _ _ _ _ => pe_tup (pa_cons (pe_g g__law_pick (hr.mono (by decide)) (pa_cons (pv 0) (pa_cons (pe_lst (pa_cons (pe_str) (pa_cons (pe_str) (pa_cons (pe_str) pa_nil)))) pa_nil))) (pa_cons (pv 8) pa_nil))))
      (pss_one (ps_dput (hu_of hr) (pv 3) (pe_ix ix_str (pv 4) (pv 5) (fun _ _ => rfl)) (pe_tup (pa_cons (pe_g g__law_pick (hr.mono (by decide)) (pa_cons (pv 0) (pa_cons (pe_lst (pa_cons (pe_un un_neg (pe_int)) (pa_cons (pe_un un_neg (pe_int)) (pa_cons (pe_int) (pa_cons (pv 1) (pa_cons (pe_g g__law_take (hr.mono (by decide)) (pa_cons (pv 0) (pa_cons (pe_op op_add (pv 1) (pe_int)) pa_nil))) pa_nil)))))) pa_nil))) (pa_cons (pe_callTy call_tuple_of (by rfl) T.f_tuple (by decide +kernel) (pa_cons (pv 7) pa_nil)) pa_nil))) rfl)))))
    (pss_one (ps_ret (pv 3)))), ?_⟩
    intro d hd
    have s1 : Same H (upd H d (.dK [])) := Same.new hd
    obtain ⟨ndD, ndW, ndC⟩ := dr.fresh hd
    have hd1 : (upd H d (.dK [])) d = some (.dK []) := upd_same
    have dr1 := dr.mono s1
    generalize upd H d (.dK []) = H1 at s1 hd1 dr1 ⊢
    refine ⟨_, rfl, _, rfl, D, wl, cl, m + 199, 6, rfl, by decide, by decide, dr1, fun H2 v hv k2 dr2 => ⟨_, _, rfl, rfl, _, rfl, _, rfl, by show 7 ≤ sizeLine; rw [sizeLine_eq]; decide, _, _, rfl, ?_⟩⟩
    rw [nm_cut v hv]
    have hd2 := k2 d _ ndD ndW hd1
    have k12 := (Same.keep s1).trans k2
    obtain ⟨j, hj⟩ : ∃ j, j = v + 1 := ⟨_, rfl⟩
    rw [← hj]
    have j1 : 1 ≤ j := by omega
    have j7 : j < 7 := by omega
    have jl : ((nmS j).length : Int) = j := by rw [nm_len j j7]
    have jz : (nmS j).length ≤ sizeLine := by rw [nm_len j j7, sizeLine_eq]; omega
    refine ⟨_, rfl, _, rfl, jz, _, rfl, by rw [jl]; omega, by rw [jl]; omega, ?_⟩
    rw [jl, Int.toNat_natCast]
    refine for_range (lo := 0) (n := j) (fun k σ H' => ∃ (v5 v6 v7 : Option V) (kvs : List (Key × V)) (L : PL), σ = [some (.ref D), some (.int (dp : Nat)), some (.int 6), some (.ref d), some (.str (nmS j)), v5, v6, v7, none] ∧ Keep D wl H H' ∧ H' d = some (.dK kvs) ∧ PairsAt (MdlAt H') kvs L ∧ SInv dp j k L ∧ DrawAt H' D wl cl (m + (j - k) * 20)) ⟨none, none, none, [], [], rfl, k12, hd2, .nil, SInv.zero _ _, dr2.less (by omega)⟩ ?_ ?_
    · rintro k σ Hb hk ⟨v5, v6, v7, kvs, L, rfl, kp, hdb, hpr, hs, drb⟩
      rw [Int.zero_add]
      obtain ⟨b0, hb0⟩ : ∃ b0, b0 = m + (j - (k + 1)) * 20 := ⟨_, rfl⟩
      have drb := drb.less (m := b0 + 20) (by rw [hb0]; have : j - k = (j - (k + 1)) + 1 := by omega
                                              rw [this, Nat.add_mul]; omega)
      obtain ⟨rest, hrest⟩ : ∃ rest, rest = (lets.take j).drop (k + 1) := ⟨_, rfl⟩
      have hrl : rest.length ≤ 5 := by rw [hrest, List.length_drop, take_len j7]; omega
      have hrm := nm_rest j j7 k hk
      rw [← hrest] at hrm
      -- the others
      refine ⟨_, rfl, _, rfl, _, _, rfl, rfl, _, rfl, _, rfl, jz, _, rfl, fun Lo hLo => ?_⟩
      obtain ⟨nLD, nLW, nLC⟩ := drb.fresh hLo
      generalize cutS (nmS j) (some ((k : Nat) + 1)) none = xz at hrm ⊢
      have hxs : xz.cps.size = rest.length := by rw [← hrm, List.length_map, Array.length_toList]
      refine lc_it (walk_str (z := xz)) (fun i H' => ∃ acc : List Str, Keep D wl Hb H' ∧ H' Lo = some (.lst (acc.map V.str)) ∧ acc.Sublist (rest.take i) ∧ DrawAt H' D wl cl (b0 + 20 - i)) ⟨[], Same.keep (Same.new hLo), upd_same, List.nil_sublist _, drb.mono (Same.new hLo)⟩ (fun _ _ _ _ => True.intro) ?_ ?_
      · rintro i x H' H'' hi ⟨acc, h1, h2, h3, h4⟩ ⟨rfl, c, hc, rfl⟩
        rw [hxs] at hi
        have hri : rest[i]? = some ⟨#[c]⟩ := by rw [← hrm, List.getElem?_map, Array.getElem?_toList, hc]; rfl
        refine ⟨rfl, _, rfl, D, wl, cl, b0 + 20 - (i + 1), 3, rfl, by decide, by decide, by rw [show b0 + 20 - (i + 1) + 1 = b0 + 20 - i by omega]; exact h4, fun H5 v hv k5 d5 => ⟨_, _, rfl, rfl, _, rfl, ?_⟩⟩
        have h2' := k5 Lo _ nLD nLW h2
        have htk : rest.take (i + 1) = rest.take i ++ [⟨#[c]⟩] := by rw [List.take_add_one, hri]; rfl
        refine ite2 (fun _ => ⟨_, rfl, _, h2', ?_, acc ++ [⟨#[c]⟩], (h1.trans k5).put hLo, by rw [upd_same, List.map_append]; rfl, ?_, d5.put nLD nLW nLC⟩) fun _ => ⟨acc, h1.trans k5, h2', ?_, d5⟩
        · rw [List.length_map]
          have := h3.length_le
          rw [List.length_take] at this
          exact small1000 (by omega)
        · rw [htk]
          exact h3.append (List.Sublist.refl _)
        · rw [htk]
          exact h3.trans (List.sublist_append_left _ _)
      · rintro H3 ⟨acc, k3, hLo3, hsub, dr3⟩
        rw [hxs, List.take_length] at hsub
        rw [hxs] at dr3
        have hacc : acc.length ≤ 5 := Nat.le_trans hsub.length_le hrl
        have hmem : ∀ x ∈ acc, x ∈ rest := fun x hx => hsub.subset hx
        have hrnd : rest.Nodup := by rw [hrest]; exact (lets_nd.sublist (List.take_sublist _ _)).sublist (List.drop_sublist _ _)
        have hand : acc.Nodup := hrnd.sublist hsub
        have hrlet : ∀ x ∈ rest, x ∈ lets := fun x hx => by rw [hrest] at hx; exact List.mem_of_mem_take (List.mem_of_mem_drop hx)
        -- the wants
        refine ⟨_, rfl, _, rfl, D, wl, cl, b0 + 10, Lo, acc, rfl, hLo3, fun x hx => hrlet x (hmem x hx), by omega, dr3.less (by omega), fun H4 Ls ys hperm k4 nLs hLs dr4 => ⟨Ls, rfl, ⟨_, SqL.of hLs⟩, fun Lw hLw => ?_⟩⟩
        obtain ⟨nSD, nSW, nSC⟩ := dr3.fresh nLs
        obtain ⟨nWD, nWW, nWC⟩ := dr4.fresh hLw
        have hyl : ys.length ≤ 5 := by rw [hperm.length_eq]; exact hacc
        have nSL : Lw ≠ Ls := fun z => by rw [z, hLs] at hLw; cases hLw
        refine lc_it (walk_list (K := K) (a := Ls) (xs := ys.map V.str)) (fun i H' => ∃ (refs : List V) (ws : List (Bool × Str)), Keep D wl H4 H' ∧ H' Ls = some (.lst (ys.map V.str)) ∧ H' Lw = some (.lst refs) ∧ Paired (WantAt H') refs ws ∧ ws.map (·.2) = ys.take i ∧ DrawAt H' D wl cl (b0 + 10 - i)) ⟨[], [], Same.keep (Same.new hLw), by rw [upd_ne (Ne.symm nSL)]; exact hLs, upd_same, .nil, rfl, dr4.mono (Same.new hLw)⟩ (fun i H' _ h => by obtain ⟨_, _, _, h1, _⟩ := h; exact SqL.of h1) ?_ ?_
        · rintro i x H' H'' hi ⟨refs, ws, h1, h2, h3, h4, h5, h6⟩ ⟨rfl, hx⟩
          rw [List.length_map] at hi
          rw [List.getElem?_map] at hx
          obtain ⟨n, hn, rfl⟩ := Option.map_eq_some_iff.mp hx
          refine ⟨rfl, _, rfl, by show 3 ≤ sizeLine; rw [sizeLine_eq]; decide, fun l hl => pick_new (K := K) (m := b0 + 10 - (i + 1)) (ws := ["held", "held", "each"]) (by rw [show b0 + 10 - (i + 1) + 1 = b0 + 10 - i by omega]; exact h6) hl (by decide) (by decide) fun H5 z hz k5 d5 => ⟨_, rfl, by show 2 ≤ sizeLine; rw [sizeLine_eq]; decide, fun t ht => ?_⟩⟩
          obtain ⟨b, rfl⟩ := way_of hz
          have s6 : Same H5 (upd H5 t (.tup [.str (wayS b), .str n])) := Same.new ht
          have h2' := s6 _ _ (k5 Ls _ nSD nSW h2)
          have h3' := s6 _ _ (k5 Lw _ nWD nWW h3)
          have tu : Tups H'' (upd H5 t (.tup [.str (wayS b), .str n])) := (Keep.tups h6 k5).trans (Same.tups s6)
          have wn : WantAt (upd H5 t (.tup [.str (wayS b), .str n])) (.ref t) (b, n) := ⟨t, rfl, upd_same⟩
          have k6 := (h1.trans k5).trans (Same.keep s6)
          have d6 := d5.mono s6
          generalize upd H5 t (.tup [.str (wayS b), .str n]) = H6 at s6 h2' h3' tu wn k6 d6 ⊢
          have hlw : refs.length ≤ i := by
            rw [Paired.length h4]
            have := congrArg List.length h5
            rw [List.length_map, List.length_take] at this
            omega
          have tu7 : Tups H6 (upd H6 Lw (.lst (refs ++ [.ref t]))) := Tups.wr h3' True.intro
          refine ⟨_, h3', small1000 (by omega), refs ++ [.ref t], ws ++ [(b, n)], k6.put hLw, by rw [upd_ne (Ne.symm nSL)]; exact h2', upd_same, Paired.snoc (wn.mono tu7) (Paired.mono (fun _ _ z => (z.mono tu).mono tu7) h4), ?_, d6.put nWD nWW nWC⟩
          rw [List.map_append, h5, List.take_add_one, hn]
          rfl
        · rintro H5 ⟨refs, ws, k5, _, hLw5, hws5, hys5, dr5⟩
          rw [List.length_map] at hys5 dr5
          rw [List.take_length] at hys5
          have dr5 := dr5.less (m := b0 + 3) (by omega)
          obtain ⟨c, hc, hn⟩ := nm_at j j7 k hk
          have hnl : (⟨#[c]⟩ : Str) ∈ lets := List.mem_of_mem_take (List.mem_of_getElem? hn)
          refine ⟨_, rfl, _, rfl, _, rfl, _, rfl, _, rfl, _, rfl, _, _, rfl, rfl, D, wl, cl, b0 + 2, dp + 1, rfl, by omega, by omega, dr5, fun H6 v hv k6 dr6 => ⟨by show 5 ≤ sizeLine; rw [sizeLine_eq]; decide, fun l hl => ?_⟩⟩
          have s7 : Same H6 (upd H6 l (.lst [.int (-1), .int (-1), .int 0, .int (dp : Nat), .int (v : Nat)])) := Same.new hl
          refine ⟨D, wl, cl, b0 + 1, l, [.int (-1), .int (-1), .int 0, .int (dp : Nat), .int (v : Nat)], rfl, .inl ⟨upd_same, (dr6.fresh hl).2.1⟩, (fun z => by cases z), (by show 5 < 1000000; decide), dr6.mono s7, fun H7 x hx k7 dr7 => ?_⟩
          obtain ⟨lf, rfl, hl1, hl2⟩ : ∃ lf : Int, x = .int lf ∧ -1 ≤ lf ∧ lf ≤ (dp : Nat) := by
            simp only [List.mem_cons, List.not_mem_nil, or_false] at hx
            rcases hx with rfl | rfl | rfl | rfl | rfl
            · exact ⟨_, rfl, by omega, by omega⟩
            · exact ⟨_, rfl, by omega, by omega⟩
            · exact ⟨_, rfl, by omega, by omega⟩
            · exact ⟨_, rfl, by omega, by omega⟩
            · exact ⟨_, rfl, by omega, by omega⟩
          have k57 : Keep D wl H5 H7 := k6.trans ((Same.keep s7).trans k7)
          have hLw7 := k57 Lw _ nWD nWW hLw5
          have tu7 := Keep.tups dr5 k57
          refine ⟨_, rfl, Lw, refs, rfl, .inl ⟨SqL.of hLw7, fun tw htw => ⟨by show 2 ≤ sizeLine; rw [sizeLine_eq]; decide, fun a ha => ?_⟩⟩⟩
          have s8 : Same H7 (upd H7 tw (.tup refs)) := Same.new htw
          have s9 : Same (upd H7 tw (.tup refs)) (upd (upd H7 tw (.tup refs)) a (.tup [.int lf, .ref tw])) := Same.new ha
          have htw9 := s9 _ _ (upd_same (H := H7) (a := tw) (o := .tup refs))
          have ha9 : (upd (upd H7 tw (.tup refs)) a (.tup [.int lf, .ref tw])) a = some (.tup [.int lf, .ref tw]) := upd_same
          have s79 := s8.trans s9
          generalize upd (upd H7 tw (.tup refs)) a (.tup [.int lf, .ref tw]) = H9 at htw9 ha9 s79 ⊢
          have kall : Keep D wl Hb H9 := k3.trans (k4.trans (k5.trans (k57.trans (Same.keep s79))))
          have hd9 := kall d _ ndD ndW hdb
          have dr9 := dr7.mono s79
          have tub := Keep.tups drb kall
          have hws9 : Paired (WantAt H9) refs ws := Paired.mono (fun _ _ z => (z.mono tu7).mono (Same.tups s79)) hws5
          have hkl : kvs.length ≤ 6 := by
            rw [Paired.length hpr]
            have := congrArg List.length hs.nm
            rw [List.length_map, List.length_take] at this
            omega
          refine ⟨_, rfl, _, rfl, _, rfl, _, _, c, rfl, rfl, jz, hc, _, _, rfl, DPut.k (k := Sum.inr ⟨#[c]⟩) hd9 (small1000 (by omega)), ?_⟩
          have tuF : Tups H9 (upd H9 d (.dK (putK kvs (Sum.inr ⟨#[c]⟩) (.ref a)))) := Tups.wr hd9 True.intro
          have hnin : (⟨#[c]⟩ : Str) ∉ L.map (·.1) := by
            rw [hs.nm]
            exact nodup_take (lets_nd.sublist (List.take_sublist _ _)) hn
          have mdl : MdlAt (upd H9 d (.dK (putK kvs (Sum.inr ⟨#[c]⟩) (.ref a)))) (.ref a) ⟨lf, ws⟩ := ⟨a, tw, refs, rfl, tuF _ _ ha9, tuF _ _ htw9, Paired.mono (fun _ _ z => z.mono tuF) hws9⟩
          refine ⟨_, _, _, _, L ++ [(⟨#[c]⟩, ⟨lf, ws⟩)], rfl, (kp.trans kall).put hd, upd_same, PairsAt.new (Paired.mono (fun kv e z => ⟨z.1, (z.2.mono tub).mono tuF⟩) hpr) hnin mdl, hs.step hn ?_ ⟨hl1, hl2⟩ (fun w hw => ?_), ?_⟩
          · show (ws.map (·.2)).Nodup
            rw [hys5]
            exact hperm.nodup_iff.mpr hand
          · rw [← hrest]
            refine hmem _ (hperm.mem_iff.mp ?_)
            rw [← hys5]
            exact List.mem_map_of_mem hw
          · exact (dr9.less (by omega)).put ndD ndW ndC
    · rintro σ H' ⟨v5, v6, v7, kvs, L, rfl, kp, hdb, hpr, hs, drb⟩
      exact ⟨_, rfl, q H' d kvs L kp hd hdb hpr (hs.lok d1 d3 j1 j7) (drb.less (by omega))⟩
end
end K94
set_option maxHeartbeats 4000000
/-! the deeds that open scopes -/
namespace K94
open PySem PySem.Spec PyProof.Rows L2 StX
/-- the scopes behind these begins -/
def scF (fs : List Nat) : List Scp := fs.foldl (fun sc s => sc ++ [⟨lvl sc s + 1, some s, true⟩]) [⟨0, none, true⟩]
theorem scF_snoc (fs : List Nat) (s : Nat) : scF (fs ++ [s]) = scF fs ++ [⟨lvl (scF fs) s + 1, some s, true⟩] := by unfold scF; rw [List.foldl_append]; rfl
theorem scF_len (fs : List Nat) : (scF fs).length = fs.length + 1 := by
  have h : ∀ (l : List Nat) (sc : List Scp), (l.foldl (fun sc s => sc ++ [(⟨lvl sc s + 1, some s, true⟩ : Scp)]) sc).length = sc.length + l.length := fun l => by
    induction l with
    | nil => intro sc; rfl
    | cons a l ih =>
      intro sc
      rw [List.foldl_cons, ih, List.length_append, List.length_cons, List.length_cons, List.length_nil]
      omega
  unfold scF
  rw [h, List.length_singleton]
  omega
/-- a way down: the i-th scope is of the level i -/
def Wy (sc : List Scp) (w : List Nat) : Prop := w ≠ [] ∧ ∀ (i s : Nat), w[i]? = some s → ∃ x : Scp, sc[s]? = some x ∧ x.level = i ∧ x.alive = true
theorem Wy.more {sc : List Scp} {w : List Nat} (h : Wy sc w) (z : List Scp) : Wy (sc ++ z) w := ⟨h.1, fun i s e => by
  obtain ⟨x, h1, h2⟩ := h.2 i s e
  exact ⟨x, by rw [List.getElem?_append_left (List.getElem?_eq_some_iff.mp h1).1]; exact h1, h2⟩⟩
theorem Wy.zero : Wy (scF []) [0] := by
  refine ⟨(fun z => nomatch z), fun i s e => ?_⟩
  cases i with
  | zero => simp at e; subst e; exact ⟨⟨0, none, true⟩, rfl, rfl, rfl⟩
  | succ i => simp at e
theorem Wy.cut {sc : List Scp} {w : List Nat} (h : Wy sc w) {n : Nat} (hn : 1 ≤ n) : Wy sc (w.take n) := by
  refine ⟨fun z => h.1 ?_, fun i s e => ?_⟩
  · cases w with
    | nil => rfl
    | cons a w => cases n with
      | zero => omega
      | succ n => cases z
  · rw [List.getElem?_take] at e
    split at e
    · exact h.2 i s e
    · cases e
def BegOk (d : Nat) (fs : List Nat) : Prop := ∀ (i s : Nat), fs[i]? = some s → ∃ x : Scp, (scF (fs.take i))[s]? = some x ∧ x.alive = true ∧ x.level < d
theorem BegOk.nil (d : Nat) : BegOk d [] := fun i s e => by simp at e
theorem BegOk.step {d : Nat} {fs w : List Nat} (h : BegOk d fs) (hw : Wy (scF fs) w) (hl : w.length ≤ d) {s : Nat} (hs : w[w.length - 1]? = some s) : BegOk d (fs ++ [s]) ∧ Wy (scF (fs ++ [s])) (w ++ [1 + fs.length]) := by
  obtain ⟨x, h1, h2, h3⟩ := hw.2 _ s hs
  have hpos : 0 < w.length := List.length_pos_iff.mpr hw.1
  refine ⟨fun i u e => ?_, fun z => by simp at z, fun i u e => ?_⟩
  · by_cases q : i < fs.length
    · rw [List.getElem?_append_left q] at e
      rw [List.take_append_of_le_length (by omega)]
      exact h i u e
    · rw [List.getElem?_append_right (by omega)] at e
      have q1 : i - fs.length < 1 := (List.getElem?_eq_some_iff.mp e).1
      have q2 : i = fs.length := by omega
      subst q2
      rw [Nat.sub_self] at e
      simp at e
      subst e
      rw [List.take_append_of_le_length (Nat.le_refl _), List.take_length]
      exact ⟨x, h1, h3, by omega⟩
  · rw [scF_snoc]
    by_cases q : i < w.length
    · rw [List.getElem?_append_left q] at e
      exact (hw.more _).2 i u e
    · rw [List.getElem?_append_right (by omega)] at e
      have q1 : i - w.length < 1 := (List.getElem?_eq_some_iff.mp e).1
      have q2 : i = w.length := by omega
      subst q2
      rw [Nat.sub_self] at e
      simp at e
      subst e
      refine ⟨_, by rw [List.getElem?_append_right (by rw [scF_len]; omega), scF_len, show 1 + fs.length - (fs.length + 1) = 0 by omega]; rfl, ?_, rfl⟩
      show lvl (scF fs) s + 1 = w.length
      rw [lvl_of h1]
      omega
def DeedsAt (H : Hp) (us : List V) (ds : List Deed) : Prop := Paired (fun v d => ∃ a, v = .ref a ∧ DeedAt H a d) us ds
theorem DeedsAt.mono {H H' : Hp} (s : Tups H H') {us : List V} {ds : List Deed} (h : DeedsAt H us ds) : DeedsAt H' us ds := Paired.mono (fun v d ⟨a, e, h⟩ => ⟨a, e, s _ _ h⟩) h
/-- the ways, each a list that is none of the others -/
def WaysAt (H : Hp) (Fo Wl D wl : Addr) (sc : List Scp) (rs : List V) : Prop := ∀ v ∈ rs, ∃ (a : Addr) (w : List Nat), v = .ref a ∧ H a = some (.lst (iN w)) ∧ a ≠ Fo ∧ a ≠ Wl ∧ a ≠ D ∧ a ≠ wl ∧ Wy sc w
theorem iN_len (w : List Nat) : (iN w).length = w.length := List.length_map _
theorem cutV_to (w : List Nat) (n : Nat) : cutV (iN w) none (some (n : Int)) = iN (w.take n) := by
  unfold cutV
  rw [HT.sIx_none, HT.sIx_nat, List.drop_zero, Nat.sub_zero, iN_len]
  unfold iN
  rw [List.map_take]
  by_cases q : n ≤ w.length
  · rw [Nat.min_eq_left q]
  · rw [Nat.min_eq_right (by omega), List.take_of_length_le (by rw [List.length_map]; exact Nat.le_refl _), List.take_of_length_le (by rw [List.length_map]; omega)]
section
variable {P : Program} {w : World} {K : PySem.W.Frag} {mg : Str → Option Value} {base : Heap} {f : Addr} {fd : FuncData}
def spBegunDeeds : Sp := fun vs H Q _ => ∃ (D wl cl : Addr) (m dp : Nat), vs = [.ref D, .int (dp : Nat)] ∧ 1 ≤ dp ∧ dp ≤ 3 ∧ DrawAt H D wl cl (m + 7) ∧ ∀ H' L us fs, Keep D wl H H' → H L = none → H' L = some (.lst us) → DeedsAt H' us (fs.map Deed.begin) → BegOk dp fs → fs.length ≤ 9 → DrawAt H' D wl cl m → Q (.ref L) H'
theorem ok__law_begun_deeds (F : FnP K "_law_begun_deeds" "_law_begun_deeds" s__law_begun_deeds f fd) (T : Txt K mg) (g__law_take : GF P w K mg base 2 "_law_take" P__law_take spTake) (g__law_pick : GF P w K mg base 3 "_law_pick" P__law_pick (spPick K)) :
    FnOk P w K mg base CX0 5 f fd P__law_begun_deeds spBegunDeeds := by
  refine okD F sc__law_begun_deeds (fun vs H Q E h => ?_) (fun cdv A outer s H vs Q E hr h => ?_)
  · obtain ⟨_, _, _, _, _, rfl, _⟩ := h; rfl
  · obtain ⟨D, wl, cl, m, dp, rfl, d1, d3, dr, q⟩ := h
    have nd := sc__law_begun_deeds.nd
    refine ⟨_, pss_cons (ps_par (i := 2) (j := 3) (by rfl) nd rfl rfl (by decide) rfl rfl (pa_cons (pe_lst (pa_nil)) (pa_cons (pe_lst (pa_cons (pe_lst (pa_cons (pe_int) pa_nil)) pa_nil)) pa_nil)) (by rfl))
    (pss_cons (ps_for PassesOwn.never rfl (pi_range1 (by rfl) T.f_range (pa_cons (pe_op op_add (pe_int) (pe_g g__law_take (hr.mono (by decide)) (pa_cons (pv 0) (pa_cons (pe_int) pa_nil)))) pa_nil)) (pg_name (i := 4) nd rfl (Or.inl rfl))
      (pss_cons (ps_set (i := 5) nd rfl (Or.inl rfl) (pe_g g__law_pick (hr.mono (by decide)) (pa_cons (pv 0) (pa_cons (pv 3) pa_nil))))
      (pss_cons (ps_set (i := 5) nd rfl (Or.inl rfl) (pe_slice sl_list (pv 5) po_none (po_some (pe_op op_add (pe_int) (pe_g g__law_take (hr.mono (by decide)) (pa_cons (pv 0) (pa_cons (pv 1) pa_nil)))))))
      (pss_cons (ps_while PassesOwn.never (pt_cmpR op_le (pe_callB call_len_seq (by rfl) T.f_len (by decide +kernel) (pa_cons (pv 5) pa_nil)) (pv 1) (nomark _))
        (pss_cons (ps_set (i := 6) nd rfl (Or.inl rfl) (pe_op op_add (pe_int) (pe_callB call_len_seq (by rfl) T.f_len (by decide +kernel) (pa_cons (pv 2) pa_nil))))
        (pss_cons (ps_expr (pe_bm PySem.F.plainAttrs_list PySem.F.slot_list_append PySem.F.type_list_append mt_append (pv 2) (pa_cons (pe_tup (pa_cons (pe_str) (pa_cons (pe_ix ix_list (pv 5) (pe_un un_neg (pe_int)) (fun _ _ => rfl)) pa_nil))) pa_nil)))
        (pss_one (ps_set (i := 5) nd rfl (Or.inl rfl) (pe_op op_cat (pv 5) (pe_lst (pa_cons (pv 6) pa_nil))))))))
      (pss_one (ps_expr (pe_bm PySem.F.plainAttrs_list PySem.F.slot_list_append PySem.F.type_list_append mt_append (pv 3) (pa_cons (pv 5) pa_nil))))))))
    (pss_one (ps_ret (pv 2)))), ?_⟩
    refine ⟨Nat.zero_le _, fun Fo hFo => ⟨by show 1 ≤ sizeLine; rw [sizeLine_eq]; decide, fun w0 hw0 => ⟨by show 1 ≤ sizeLine; rw [sizeLine_eq]; decide, fun Wl hWl => ⟨_, _, rfl, ?_⟩⟩⟩⟩
    have s1 : Same H (upd H Fo (.lst [])) := Same.new hFo
    have s2 : Same (upd H Fo (.lst [])) (upd (upd H Fo (.lst [])) w0 (.lst [.int 0])) := Same.new hw0
    have s3 : Same (upd (upd H Fo (.lst [])) w0 (.lst [.int 0])) (upd (upd (upd H Fo (.lst [])) w0 (.lst [.int 0])) Wl (.lst [.ref w0])) := Same.new hWl
    have nw0 : H w0 = none := s1.free hw0
    have nWl : H Wl = none := (s1.trans s2).free hWl
    have hF1 := s3 _ _ (s2 _ _ (upd_same (H := H) (a := Fo) (o := .lst [])))
    have h01 := s3 _ _ (upd_same (H := upd H Fo (.lst [])) (a := w0) (o := .lst [.int 0]))
    have hW1 : (upd (upd (upd H Fo (.lst [])) w0 (.lst [.int 0])) Wl (.lst [.ref w0])) Wl = some (.lst [.ref w0]) := upd_same
    have nF0 : w0 ≠ Fo := fun z => by rw [z, upd_same] at hw0; cases hw0
    have n0W : w0 ≠ Wl := fun z => by rw [← z, upd_same] at hWl; cases hWl
    have nFW : Fo ≠ Wl := fun z => by rw [← z, upd_ne (Ne.symm nF0), upd_same] at hWl; cases hWl
    obtain ⟨nFD, nFl, nFC⟩ := dr.fresh hFo
    obtain ⟨nWD, nWl', nWC⟩ := dr.fresh nWl
    obtain ⟨n0D, n0l, _⟩ := dr.fresh nw0
    have s13 := (s1.trans s2).trans s3
    have dr1 := dr.mono s13
    generalize upd (upd (upd H Fo (.lst [])) w0 (.lst [.int 0])) Wl (.lst [.ref w0]) = H1 at hF1 h01 hW1 s13 dr1 ⊢
    refine ⟨_, rfl, D, wl, cl, m + 6, 3, rfl, by decide, by decide, dr1, fun H2 v hv k2 d2 => ⟨_, _, rfl, rfl, _, rfl, by omega, by omega, ?_⟩⟩
    rw [show (1 + ((v : Nat) : Int)).toNat = 1 + v by omega]
    refine for_range (lo := 0) (n := 1 + v) (fun i σ H' => ∃ (v4 v5 v6 : Option V) (us : List V) (fs : List Nat) (rs : List V), σ = [some (.ref D), some (.int (dp : Nat)), some (.ref Fo), some (.ref Wl), v4, v5, v6] ∧ Keep D wl H H' ∧ H' Fo = some (.lst us) ∧ DeedsAt H' us (fs.map Deed.begin) ∧ BegOk dp fs ∧ fs.length ≤ 3 * i ∧
      H' Wl = some (.lst rs) ∧ rs ≠ [] ∧ rs.length = i + 1 ∧ WaysAt H' Fo Wl D wl (scF fs) rs ∧ DrawAt H' D wl cl (m + (3 - i) * 2))
      ⟨none, none, none, [], [], [.ref w0], rfl, (Same.keep s13).trans k2, k2 Fo _ nFD nFl hF1, .nil, BegOk.nil _, Nat.le_refl _, k2 Wl _ nWD nWl' hW1, (fun z => by cases z), rfl, fun x hx => ?_, d2⟩ ?_ ?_
    · rw [List.mem_singleton.mp hx]
      exact ⟨w0, [0], rfl, k2 w0 _ n0D n0l h01, nF0, n0W, n0D, n0l, Wy.zero⟩
    · rintro i σ Hb hi ⟨v4, v5, v6, us, fs, rs, rfl, kp, hF, hds, hbo, hfl, hW, hrn, hrl, hws, drb⟩
      obtain ⟨b0, hb0⟩ : ∃ b0, b0 = m + (3 - (i + 1)) * 2 := ⟨_, rfl⟩
      have drb := drb.less (m := b0 + 2) (by omega)
      refine ⟨_, rfl, _, rfl, D, wl, cl, b0 + 1, Wl, rs, rfl, .inl ⟨hW, nWl'⟩, hrn, by omega, drb, fun H3 x hx k3 d3' => ?_⟩
      obtain ⟨a, w, rfl, ha, na1, na2, na3, na4, hwy⟩ := hws x hx
      refine ⟨_, rfl, _, rfl, _, rfl, D, wl, cl, b0, dp, rfl, d1, by omega, d3', fun H4 u hu k4 d4 => ⟨_, _, rfl, rfl, _, rfl, a, iN w, rfl, SqL.of (k4 a _ na3 na4 (k3 a _ na3 na4 ha)), fun p hp => ?_⟩⟩
      rw [show (1 + ((u : Nat) : Int)) = ((1 + u : Nat) : Int) by omega, cutV_to]
      have k34 := k3.trans k4
      have s5 : Same H4 (upd H4 p (.lst (iN (w.take (1 + u))))) := Same.new hp
      have k35 := k34.trans (Same.keep s5)
      have hF5 := s5 _ _ (k34 Fo _ nFD nFl hF)
      have hW5 := s5 _ _ (k34 Wl _ nWD nWl' hW)
      have hp5 : (upd H4 p (.lst (iN (w.take (1 + u))))) p = some (.lst (iN (w.take (1 + u)))) := upd_same
      have npF : p ≠ Fo := fun z => by rw [z, k34 Fo _ nFD nFl hF] at hp; cases hp
      have npW : p ≠ Wl := fun z => by rw [z, k34 Wl _ nWD nWl' hW] at hp; cases hp
      obtain ⟨npD, npl, _⟩ := d4.fresh hp
      have dr5 := d4.mono s5
      have hds5 := hds.mono (Keep.tups drb k35)
      have hws5 : WaysAt (upd H4 p (.lst (iN (w.take (1 + u))))) Fo Wl D wl (scF fs) rs := fun v hv => by
        obtain ⟨a, w, e, ha, q1, q2, q3, q4, q5⟩ := hws v hv
        exact ⟨a, w, e, k35 a _ q3 q4 ha, q1, q2, q3, q4, q5⟩
      have hwy5 := hwy.cut (n := 1 + u) (by omega)
      have hwl5 : (w.take (1 + u)).length ≤ dp + 1 := by rw [List.length_take]; omega
      have kp5 := kp.trans k35
      generalize upd H4 p (.lst (iN (w.take (1 + u)))) = H5 at hF5 hW5 hp5 dr5 hds5 hws5 kp5 ⊢
      generalize w.take (1 + u) = w5 at hp5 hwy5 hwl5
      have hw5 : 1 ≤ w5.length := List.length_pos_iff.mpr hwy5.1
      refine ⟨fun k σ H' => ∃ (p : Addr) (w : List Nat) (us : List V) (fs : List Nat) (v6 : Option V), σ = [some (.ref D), some (.int (dp : Nat)), some (.ref Fo), some (.ref Wl), some (.int (0 + (i : Nat))), some (.ref p), v6] ∧ Keep D wl H H' ∧ H' Fo = some (.lst us) ∧ DeedsAt H' us (fs.map Deed.begin) ∧ BegOk dp fs ∧ fs.length + (dp + 1 - w.length) ≤ 3 * i + 3 ∧ H' Wl = some (.lst rs) ∧ WaysAt H' Fo Wl D wl (scF fs) rs ∧
        H' p = some (.lst (iN w)) ∧ p ≠ Fo ∧ p ≠ Wl ∧ p ≠ D ∧ p ≠ wl ∧ Wy (scF fs) w ∧ w.length ≤ dp + 1 ∧ DrawAt H' D wl cl b0 ∧ k = dp + 1 - w.length, ⟨_, p, w5, us, fs, _, rfl, kp5, hF5, hds5, hbo, by omega, hW5, hws5, hp5, npF, npW, npD, npl, hwy5, hwl5, dr5, rfl⟩, ?_⟩
      rintro k σ H6 ⟨p, w, us, fs, v6', rfl, kp6, hF6, hds6, hbo6, hlen6, hW6, hws6, hp6, npF, npW, npD, npl, hwy6, hwl6, dr6, rfl⟩
      refine ⟨_, rfl, p, _, rfl, .inl (SqL.of hp6), _, rfl, _, _, rfl, rfl, _, rfl, ?_⟩
      rw [iN_len]
      have hw6 : 1 ≤ w.length := List.length_pos_iff.mpr hwy6.1
      by_cases hc : w.length ≤ dp
      · rw [decide_eq_true (show (w.length : Int) ≤ (dp : Nat) by omega)]
        refine iteT ⟨fun σ' H'' => ∃ m', m' < dp + 1 - w.length ∧ ∃ (p : Addr) (w : List Nat) (us : List V) (fs : List Nat) (v6 : Option V), σ' = [some (.ref D), some (.int (dp : Nat)), some (.ref Fo), some (.ref Wl), some (.int (0 + (i : Nat))), some (.ref p), v6] ∧ Keep D wl H H'' ∧ H'' Fo = some (.lst us) ∧ DeedsAt H'' us (fs.map Deed.begin) ∧ BegOk dp fs ∧ fs.length + (dp + 1 - w.length) ≤ 3 * i + 3 ∧ H'' Wl = some (.lst rs) ∧ WaysAt H'' Fo Wl D wl (scF fs) rs ∧
          H'' p = some (.lst (iN w)) ∧ p ≠ Fo ∧ p ≠ Wl ∧ p ≠ D ∧ p ≠ wl ∧ Wy (scF fs) w ∧ w.length ≤ dp + 1 ∧ DrawAt H'' D wl cl b0 ∧ m' = dp + 1 - w.length, fun _ _ z => z, ?_⟩
        have hul : us.length = fs.length := by rw [Paired.length hds6, List.length_map]
        have hlast := List.getElem?_eq_getElem (show w.length - 1 < w.length by omega)
        generalize w[w.length - 1] = sl at hlast
        have hat : atI (iN w) (-1) = some (.int (sl : Nat)) := by
          obtain ⟨ini, e⟩ : ∃ ini, w = ini ++ [sl] := by
            refine ⟨w.dropLast, ?_⟩
            have e2 := List.dropLast_concat_getLast hwy6.1
            rw [List.getLast_eq_getElem] at e2
            have e3 : w[w.length - 1] = sl := Option.some.inj ((List.getElem?_eq_getElem (by omega)).symm.trans hlast)
            rw [e3] at e2
            exact e2.symm
          rw [e]
          unfold iN
          rw [List.map_append]
          exact atI_last _ _
        obtain ⟨hbo7, hwy7⟩ := hbo6.step hwy6 hc hlast
        refine ⟨_, rfl, Fo, us, rfl, .inl (SqL.of hF6), _, _, rfl, rfl, ?_⟩
        rw [hul]
        refine ⟨_, rfl, .inl ⟨rfl, _, SqL.of hF6⟩, _, rfl, _, rfl, p, iN w, -1, _, rfl, rfl, SqL.of hp6, hat, by show 2 ≤ sizeLine; rw [sizeLine_eq]; decide, fun t ht => ?_⟩
        have s7 : Same H6 (upd H6 t (.tup [.str "begin", .int (sl : Nat)])) := Same.new ht
        have hF7 := s7 _ _ hF6
        have hp7 := s7 _ _ hp6
        have hW7 := s7 _ _ hW6
        have dt : DeedAt (upd H6 t (.tup [.str "begin", .int (sl : Nat)])) t (.begin sl) := upd_same
        have kp7 := kp6.trans (Same.keep s7)
        have dr7 := dr6.mono s7
        generalize upd H6 t (.tup [.str "begin", .int (sl : Nat)]) = H7 at s7 hF7 hp7 hW7 dt kp7 dr7 ⊢
        have tuF : Tups H7 (upd H7 Fo (.lst (us ++ [.ref t]))) := Tups.wr hF7 True.intro
        refine ⟨Fo, us, _, rfl, rfl, hF7, small1000 (by omega), ?_⟩
        have hp8 : (upd H7 Fo (.lst (us ++ [.ref t]))) p = some (.lst (iN w)) := by rw [upd_ne npF]; exact hp7
        have hW8 : (upd H7 Fo (.lst (us ++ [.ref t]))) Wl = some (.lst rs) := by rw [upd_ne (Ne.symm nFW)]; exact hW7
        have hF8 : (upd H7 Fo (.lst (us ++ [.ref t]))) Fo = some (.lst (us ++ [.ref t])) := upd_same
        have kp8 := kp7.put (o := .lst (us ++ [.ref t])) hFo
        have dr8 := dr7.put (o := .lst (us ++ [.ref t])) nFD nFl nFC
        have hds8 : DeedsAt (upd H7 Fo (.lst (us ++ [.ref t]))) (us ++ [.ref t]) ((fs ++ [sl]).map Deed.begin) := by
          rw [List.map_append]
          exact Paired.snoc ⟨t, rfl, tuF _ _ dt⟩ ((hds6.mono (Same.tups s7)).mono tuF)
        have hws8 : WaysAt (upd H7 Fo (.lst (us ++ [.ref t]))) Fo Wl D wl (scF (fs ++ [sl])) rs := fun v hv => by
          obtain ⟨a, w, e, ha, q1, q2, q3, q4, q5⟩ := hws6 v hv
          exact ⟨a, w, e, by rw [upd_ne q1]; exact s7 _ _ ha, q1, q2, q3, q4, by rw [scF_snoc]; exact q5.more _⟩
        generalize upd H7 Fo (.lst (us ++ [.ref t])) = H8 at hp8 hW8 hF8 kp8 dr8 hds8 hws8 ⊢
        refine ⟨_, rfl, _, rfl, by show 1 ≤ sizeLine; rw [sizeLine_eq]; decide, fun l1 hl1 => ?_⟩
        have s9 : Same H8 (upd H8 l1 (.lst [.int (1 + (fs.length : Nat))])) := Same.new hl1
        have hl9 : (upd H8 l1 (.lst [.int (1 + (fs.length : Nat))])) l1 = some (.lst [.int (1 + (fs.length : Nat))]) := upd_same
        have hp9 := s9 _ _ hp8
        refine ⟨_, _, _, _, rfl, rfl, hp9, hl9, by show (iN w).length + 1 ≤ sizeLine; rw [iN_len, sizeLine_eq]; omega, fun lw hlw => ?_⟩
        have s10 : Same (upd H8 l1 (.lst [.int (1 + (fs.length : Nat))])) (upd (upd H8 l1 (.lst [.int (1 + (fs.length : Nat))])) lw (.lst (iN w ++ [.int (1 + (fs.length : Nat))]))) := Same.new hlw
        have s810 := s9.trans s10
        have hcat : iN w ++ [.int (1 + (fs.length : Nat))] = iN (w ++ [1 + fs.length]) := by
          unfold iN
          rw [List.map_append]
          show _ = _ ++ [V.int ((1 + fs.length : Nat) : Int)]
          congr 2
        obtain ⟨nlD, nll, _⟩ := dr8.fresh (s9.free hlw)
        refine ⟨_, ?_, lw, w ++ [1 + fs.length], us ++ [.ref t], fs ++ [sl], _, rfl, kp8.trans (Same.keep s810), s810 _ _ hF8, hds8.mono (Same.tups s810), hbo7, ?_, s810 _ _ hW8, fun v hv => ?_, by rw [upd_same, hcat], ?_, ?_, nlD, nll, hwy7, ?_, dr8.mono s810, rfl⟩
        · rw [List.length_append, List.length_singleton]; omega
        · rw [List.length_append, List.length_append, List.length_singleton, List.length_singleton]; omega
        · obtain ⟨a, w, e, ha, q1, q2, q3, q4, q5⟩ := hws8 v hv
          exact ⟨a, w, e, s810 _ _ ha, q1, q2, q3, q4, q5⟩
        · exact fun z => by rw [z, s9 _ _ hF8] at hlw; cases hlw
        · exact fun z => by rw [z, s9 _ _ hW8] at hlw; cases hlw
        · rw [List.length_append, List.length_singleton]; omega
      · rw [decide_eq_false (show ¬ (w.length : Int) ≤ (dp : Nat) by omega)]
        have tuW : Tups H6 (upd H6 Wl (.lst (rs ++ [.ref p]))) := Tups.wr hW6 True.intro
        refine iteF ⟨_, rfl, .inl ⟨rfl, _, SqL.of hW6⟩, _, rfl, Wl, rs, _, rfl, rfl, hW6, small1000 (by omega), _, _, _, us, fs, rs ++ [.ref p], rfl, kp6.put nWl, by rw [upd_ne nFW]; exact hF6, hds6.mono tuW, hbo6, by omega, upd_same, by simp, by rw [List.length_append, hrl]; rfl, fun x hx => ?_, by rw [← hb0]; exact dr6.put nWD nWl' nWC⟩
        rcases List.mem_append.mp hx with z | z
        · obtain ⟨a, w, e, ha, q1, q2, q3, q4, q5⟩ := hws6 x z
          exact ⟨a, w, e, by rw [upd_ne q2]; exact ha, q1, q2, q3, q4, q5⟩
        · rw [List.mem_singleton.mp z]
          exact ⟨p, w, rfl, by rw [upd_ne npW]; exact hp6, npF, npW, npD, npl, hwy6⟩
    · rintro σ H' ⟨v4, v5, v6, us, fs, rs, rfl, kp, hF, hds, hbo, hfl, hW, hrn, hrl, hws, drb⟩
      exact ⟨_, rfl, q H' Fo us fs kp hFo hF hds hbo (by omega) (drb.less (by omega))⟩
end
end K94
set_option maxHeartbeats 4000000
/-! a container while draws are made; the level of a scope -/
namespace K94
open PySem PySem.Spec PyProof.Rows L2 StX
theorem Stat.keep {K : PySem.W.Frag} {H H' : Hp} {g : Gam} {D wl cl : Addr} {n : Nat} (st : Stat K H g) (d : DrawAt H D wl cl n) (k : Keep D wl H H') : Stat K H' g := by
  have kk : ∀ {a : Addr} {o : HO}, H a = some o → (∀ xs, o ≠ .lst xs) → (∀ kvs, o ≠ .dK kvs) → H' a = some o := fun e h1 h2 => by
    obtain ⟨n1, n2⟩ := d.apart e h1 h2
    exact k _ _ n1 n2 e
  have tu := Keep.tups d k
  obtain ⟨⟨dxb, tb, bk⟩, ⟨dx, gd, kvs, pt⟩, bo, mo⟩ := st
  refine ⟨⟨dxb, tb, kk bk.self (fun _ z => by cases z) (fun _ z => by cases z), tu _ _ bk.bars⟩, ⟨dx, gd, kvs, kk pt.self (fun _ z => by cases z) (fun _ z => by cases z), ?_, pt.keys, fun m p e => ?_, pt.nones⟩, bo, mo⟩
  · obtain ⟨ws, cs, r, t, e1, e2, _⟩ := d
    refine k gd _ (fun z => ?_) (fun z => ?_) pt.dict
    · have h1 := pt.dict
      rw [z, e1] at h1
      cases h1
      have h2 := pt.keys
      have h3 : (Sum.inr "wide" : Key) ∈ g.M.names.map Sum.inr := by
        rw [← h2]
        exact List.mem_cons_self
      obtain ⟨m, hm, e⟩ := List.mem_map.mp h3
      have h4 : m = "wide" := Sum.inr.inj e
      exact (mo.nmOk m ((mo.dom m).mp hm)).2 h4
    · have h1 := pt.dict
      rw [z, e2] at h1
      cases h1
  · obtain ⟨v, h1, a, dxa, tw, ws, e1, e2, e3, e4⟩ := pt.vals m p e
    exact ⟨v, h1, a, dxa, tw, ws, e1, kk e2 (fun _ z => by cases z) (fun _ z => by cases z), tu _ _ e3, Paired.mono (fun _ _ z => z.mono tu) e4⟩
/-- the container stays while draws are made -/
theorem Ctr.draws {K : PySem.W.Frag} {g : Gam} {H0 H H' : Hp} {A : Ad} {S : Cor} {W : Wks} {D wl cl : Addr} {n n' : Nat} (c : Ctr K g H0 H A S W) (d0 : DrawAt H0 D wl cl n) (k : Keep D wl H H') (d' : DrawAt H' D wl cl n') :
    ∃ H0', Ctr K g H0' H' A S W ∧ DrawAt H0' D wl cl n' ∧ Keep D wl H0 H0' := by
  obtain ⟨oD, eD⟩ := d0.dD
  obtain ⟨oW, eW⟩ := d0.dW
  have nDw := d0.wD
  have nr : ∀ r, (cont K g A S W r).isSome = true → A.a r ≠ D ∧ A.a r ≠ wl := fun r hr => ⟨fun z => (by have := c.new r hr; rw [z, eD] at this; cases this), fun z => (by have := c.new r hr; rw [z, eW] at this; cases this)⟩
  have tu : Tups H H' := Keep.tups (d0.mono c.same) k
  have k0 : Keep D wl H0 (fun a => if a = D then H' D else if a = wl then H' wl else H0 a) := fun b o h1 h2 e => by
    show (if b = D then _ else if b = wl then _ else _) = _
    rw [if_neg h1, if_neg h2]
    exact e
  refine ⟨fun a => if a = D then H' D else if a = wl then H' wl else H0 a, ⟨c.st.keep d0 k0, fun b o e => ?_, fun r o e => ?_, c.inj, fun r hr => ?_, Paired.mono (fun _ _ h => h.mono tu) c.fts, Paired.mono (fun _ _ h => tu _ _ h) c.wks⟩, ?_, k0⟩
  · have e : (if b = D then H' D else if b = wl then H' wl else H0 b) = some o := e
    by_cases h1 : b = D
    · rw [if_pos h1] at e; rw [h1]; exact e
    · rw [if_neg h1] at e
      by_cases h2 : b = wl
      · rw [if_pos h2] at e; rw [h2]; exact e
      · rw [if_neg h2] at e
        exact k b o h1 h2 (c.same b o e)
  · obtain ⟨h1, h2⟩ := nr r (by rw [e]; rfl)
    exact k _ _ h1 h2 (c.at_ r o e)
  · obtain ⟨h1, h2⟩ := nr r hr
    show (if A.a r = D then _ else if A.a r = wl then _ else _) = _
    rw [if_neg h1, if_neg h2]
    exact c.new r hr
  · obtain ⟨ws, cs, r, t, f1, f2, f3, f4, f5⟩ := d'
    obtain ⟨ws0, cs0, r0, t0, e1, e2, e3, e4, e5⟩ := d0
    have nDc : cl ≠ D := fun z => by rw [z, e1] at e3; cases e3
    have h3 := k cl _ nDc e4 (c.same cl _ e3)
    refine ⟨ws, cs, r, t, ?_, ?_, ?_, f4, f5⟩
    · show (if D = D then _ else _) = _
      rw [if_pos rfl]
      exact f1
    · show (if wl = D then _ else if wl = wl then _ else _) = _
      rw [if_neg (Ne.symm nDw), if_pos rfl]
      exact f2
    · show (if cl = D then _ else if cl = wl then _ else _) = _
      rw [if_neg nDc, if_neg e4, e3, ← h3]
      exact f3
theorem rd_get {H : Hp} {a : Addr} {i : Int} {kvs : List (Key × V)} {v : V} (h : Rd H a (.dK kvs)) (e : valV kvs (Sum.inl i) = some v) : DGet H a (.int i) (some v) := .inl ⟨kvs, Sum.inl i, h, rfl, e.symm⟩
section
variable {P : Program} {w : World} {K : PySem.W.Frag} {mg : Str → Option Value} {base : Heap} {f : Addr} {fd : FuncData}
def spLevel : Sp := fun vs H Q _ => ∃ (E : Addr) (sc : List Scp) (d s : Nat) (x : Scp), vs = [.ref E, .int (s : Nat)] ∧ Rd H E (.dK (opN sc sc.length)) ∧ ScOk d sc ∧ d ≤ 3 ∧ sc[s]? = some x ∧ x.alive = true ∧ Q (.int (x.level : Nat)) H
theorem ok__law_level (F : FnP K "_law_level" "_law_level" s__law_level f fd) (T : Txt K mg) : FnOk P w K mg base CX0 1 f fd P__law_level spLevel := by
  refine okD F sc__law_level (fun vs H Q E h => ?_) (fun cdv A outer s H vs Q E hr h => ?_)
  · obtain ⟨_, _, _, _, _, rfl, _⟩ := h; rfl
  · obtain ⟨E0, sc, d, s0, x, rfl, hE, ok, d3, ex, ha, q⟩ := h
    have nd := sc__law_level.nd
    refine ⟨_, pss_cons (ps_par (i := 2) (j := 3) (by rfl) nd rfl rfl (by decide) rfl rfl (pa_cons (pe_int) (pa_cons (pv 1) pa_nil)) (by rfl))
    (pss_cons (ps_for PassesOwn.never rfl (pi_range1 (by rfl) T.f_range (pa_cons (pe_int) pa_nil)) (pg_name (i := 4) nd rfl (Or.inl rfl))
      (pss_one (ps_if (pt_cmpR op_notN (pe_dget (hu_of hr) (pv 0) (pv 3) (fun _ _ => rfl)) (pe_non) (nomark _))
        (pss_one (ps_par (i := 2) (j := 3) (by rfl) nd rfl rfl (by decide) rfl rfl (pa_cons (pe_op op_add (pv 2) (pe_int)) (pa_cons (pe_dget (hu_of hr) (pv 0) (pv 3) (fun _ _ => rfl)) pa_nil)) (by rfl)))
        (pss_nil))))
    (pss_one (ps_ret (pv 2)))), ?_⟩
    have hx3 : x.level ≤ 3 := Nat.le_trans (ok.lv s0 x ex) d3
    refine ⟨_, rfl, _, _, rfl, _, rfl, by decide, by decide, ?_⟩
    refine for_range (lo := 0) (n := 4) (fun i σ H' => H' = H ∧ ∃ (v4 : Option V) (fnd h : Nat) (y : Scp), σ = [some (.ref E0), some (.int (s0 : Nat)), some (.int (fnd : Nat)), some (.int (h : Nat)), v4] ∧ sc[h]? = some y ∧ y.alive = true ∧ fnd + y.level = x.level ∧ (i ≤ fnd ∨ y.level = 0)) ⟨rfl, none, 0, s0, x, rfl, ex, ha, by omega, .inl (Nat.le_refl _)⟩ ?_ ?_
    · rintro i σ H' hi ⟨rfl, v4, fnd, h, y, rfl, ey, hy, hlev, hor⟩
      have hal : alv sc h = true := by rw [alv_of ey]; exact hy
      have dg := rd_get hE (opN_get hal (List.getElem?_eq_some_iff.mp ey).1)
      rw [undO_of ey] at dg
      by_cases h0 : h = 0
      · subst h0
        rw [ok.z] at ey
        cases ey
        exact ⟨_, rfl, _, rfl, _, _, rfl, dg, rfl, _, rfl, iteF ⟨rfl, _, fnd, 0, _, rfl, ok.z, rfl, hlev, .inr rfl⟩⟩
      · obtain ⟨u, z, hu, _, ez, hl, hz⟩ := ok.up h y ey h0
        rw [hu] at dg
        exact ⟨_, rfl, _, rfl, _, _, rfl, dg, rfl, _, rfl, iteT ⟨_, rfl, _, _, rfl, rfl, _, rfl, _, rfl, _, _, rfl, dg, _, _, rfl, rfl, _, fnd + 1, u, z, rfl, ez, hz hy, by omega, by omega⟩⟩
    · rintro σ H' ⟨rfl, v4, fnd, h, y, rfl, ey, hy, hlev, hor⟩
      have : fnd = x.level := by omega
      rw [← this] at q
      exact ⟨_, rfl, q⟩
end
end K94
set_option maxHeartbeats 4000000
/-! the next deed of a shop -/
namespace K94
open PySem PySem.Spec PyProof.Rows L2 StX
theorem Keep.none {D wl cl : Addr} {H H' : Hp} {n : Nat} (d : DrawAt H' D wl cl n) (k : Keep D wl H H') {a : Addr} (e : H' a = Option.none) : H a = Option.none := by
  cases q : H a with
  | none => rfl
  | some o =>
    obtain ⟨n1, n2, _⟩ := d.fresh e
    have := k a o n1 n2 q
    rw [e] at this
    cases this
theorem openS_mem {sc : List Scp} {i : Nat} : i ∈ openS sc ↔ ∃ x : Scp, sc[i]? = some x ∧ x.alive = true := by
  rw [openS_eq, List.mem_filter, List.mem_range]
  constructor
  · rintro ⟨h1, h2⟩
    have e := List.getElem?_eq_getElem h1
    rw [alv_of e] at h2
    exact ⟨_, e, h2⟩
  · rintro ⟨x, e, h⟩
    exact ⟨(List.getElem?_eq_some_iff.mp e).1, by rw [alv_of e]; exact h⟩
theorem openS_len (sc : List Scp) : (openS sc).length ≤ sc.length := by
  rw [openS_eq]
  exact Nat.le_trans (List.length_filter_le _ _) (by rw [List.length_range]; exact Nat.le_refl _)
theorem open_at {sc : List Scp} {i : Nat} {k : Key} {v : V} (h : (opN sc sc.length)[i]? = some (k, v)) : ∃ s : Nat, (openS sc)[i]? = some s ∧ k = Sum.inl (s : Int) := by
  rw [opN_openS, List.getElem?_map] at h
  obtain ⟨s, hs, e⟩ := Option.map_eq_some_iff.mp h
  cases e
  exact ⟨s, hs, rfl⟩
theorem filt_succ {l : List Nat} {b : Nat → Bool} {i s : Nat} (h : l[i]? = some s) : (l.take (i + 1)).filter b = (l.take i).filter b ++ if b s = true then [s] else [] := by
  rw [List.take_add_one, h, List.filter_append]
  congr 1
  show List.filter b [s] = _
  cases e : b s <;> simp [List.filter, e]
theorem cut3_mem {l : List Nat} {x : V} (h : x ∈ cutV (iN l) (some (-3)) none) : ∃ s ∈ l, x = .int (s : Nat) := by
  unfold cutV at h
  have h1 := List.mem_of_mem_drop (List.mem_of_mem_take h)
  obtain ⟨s, hs, rfl⟩ := List.mem_map.mp h1
  exact ⟨s, hs, rfl⟩
theorem cut3_ne {l : List Nat} (h : l ≠ []) : cutV (iN l) (some (-3)) none ≠ [] := by
  have hp : 1 ≤ (iN l).length := by rw [iN_len]; exact List.length_pos_iff.mpr h
  intro z
  have h2 := congrArg List.length z
  unfold cutV at h2
  rw [List.length_take, List.length_drop, HT.sIx_none] at h2
  have h3 : HT.sIx (iN l).length 0 (some (-3)) = (-3 + ((iN l).length : Int)).toNat := rfl
  rw [h3, List.length_nil] at h2
  omega
theorem iN_mem {l : List Nat} {x : V} (h : x ∈ iN l) : ∃ s ∈ l, x = .int (s : Nat) := by
  obtain ⟨s, hs, rfl⟩ := List.mem_map.mp h
  exact ⟨s, hs, rfl⟩
section
variable {P : Program} {w : World} {K : PySem.W.Frag} {mg : Str → Option Value} {base : Heap} {f : Addr} {fd : FuncData}
def spShopDeed (K : PySem.W.Frag) : Sp := fun vs H Q _ => ∃ (g : Gam) (H0 : Hp) (A : Ad) (S : Cor) (W : Wks) (D wl cl : Addr) (m : Nat), vs = [.ref D, .ref (A.a .self), .int (g.M.depth : Nat), .bl false] ∧ Ctr K g H0 H A S W ∧ WF g S ∧ W.ws = [] ∧ DrawAt H0 D wl cl (m + 10) ∧ S.scopes.length ≤ 1000 ∧ g.M.names.length ≤ 1000 ∧
  ∀ H' H0' a d, Ctr K g H0' H' A S W → DrawAt H0' D wl cl m → Keep D wl H H' → Keep D wl H0 H0' → H a = none → DeedAt H' a d → Legal g (S, W) d → (∀ k, d ≠ .run k) → Q (.ref a) H'
theorem ok__law_shop_deed (F : FnP K "_law_shop_deed" "_law_shop_deed" s__law_shop_deed f fd) (T : Txt K mg) (g__law_take : GF P w K mg base 2 "_law_take" P__law_take spTake) (g__law_pick : GF P w K mg base 3 "_law_pick" P__law_pick (spPick K)) (g__law_level : GF P w K mg base 1 "_law_level" P__law_level spLevel)
    (p_Container_scopes : GP P w K mg base 1 (CContainer K) "scopes" (spScopes K)) (m_Container_waiting : GM P w K mg base 1 (CContainer K) "waiting" P_Container_waiting (spWaiting K)) (p_Container_book : PR P w K mg base (CContainer K) "book" "c_book") (p_Container_parts : PR P w K mg base (CContainer K) "parts" "c_parts")
    (p_Book_works : PR P w K mg base (CBook K) "works" "b_works") (m_Parts_names : GM P w K mg base 1 (CParts K) "names" P_Parts_names (spNames K)) :
    FnOk P w K mg base CX0 5 f fd P__law_shop_deed (spShopDeed K) := by
  refine okD F sc__law_shop_deed (fun vs H Q E h => ?_) (fun cdv A outer s H vs Q E hr h => ?_)
  · obtain ⟨_, _, _, _, _, _, _, _, _, rfl, _⟩ := h; rfl
  · obtain ⟨g, H0, A, S, W, D, wl, cl, m, rfl, c, wf, hw, dr0, hsc, hnm, q⟩ := h
    have nd := sc__law_shop_deed.nd
    refine ⟨_, pss_cons (ps_asg (pe_tup (pa_cons (pe_p p_Container_scopes (hr.mono (by decide)) (pv 1)) (pa_cons (pe_m0 m_Container_waiting (hr.mono (by decide)) (pv 1)) pa_nil))) (pg_tup rfl (pgs_cons (pg_name (i := 4) nd rfl (Or.inr rfl)) (pgs_cons (pg_name (i := 5) nd rfl (Or.inl rfl)) pgs_nil))))
    (pss_cons (ps_set (i := 6) nd rfl (Or.inr rfl) (pe_op op_cat (pe_lst (pa_cons (pe_int) pa_nil)) (pe_callTy (call_list_vals rfl) (by rfl) T.f_list (by decide +kernel) (pa_cons (pe_vals (pv 4)) pa_nil))))
    (pss_cut (ps_if (pt_cmpR op_eq (pe_pr p_Book_works (hr.mono (by decide)) (pe_pr p_Container_book (hr.mono (by decide)) (pv 1))) (pe_str) (nomark _))
      (pss_one (ps_set (i := 6) nd rfl (Or.inr rfl) (pe_op op_cat (pv 6) (pe_lock (pe_lc (own := [("_law_work", 11)]) (g := gName 11) rfl nd (pi_values (pv 5)) (blkOk_by (N := N__law_shop_deed) (sc := defScope s__law_shop_deed) (own := [("_law_work", 11)]) (by decide +kernel)) (fun _ _ _ _ _ => pg_name (i := 11) nd rfl (Or.inl rfl)) (fun _ _ _ _ _ => pts_nil) (fun _ _ _ _ _ => pe_ix (r := rIxT K) ix_tup (pv 11) (pe_int) (fun _ _ => rfl)))))))
      (pss_nil))
    (pss_cons (ps_lock (ps_setLc (i := 7) (own := [("_law_one", 12)]) (g := gName 12) rfl nd rfl rfl (sw_true rfl rfl rfl (by decide +kernel)) (pi_keys (pv 4)) (blkOk_by (N := N__law_shop_deed) (sc := defScope s__law_shop_deed) (own := [("_law_one", 12)]) (by decide +kernel)) (fun _ _ _ _ _ => pg_name (i := 12) nd rfl (Or.inl rfl)) (fun _ _ _ _ _ => pts_one (pt_cmpR (r := rIn K true) op_notIn_seq (pv 12) (pv 6) rfl)) (fun _ _ _ _ _ => pv 12)))
    (pss_cons (ps_set (i := 8) nd rfl (Or.inl rfl) (pe_ifExp (pt_val (pv 3)) (pe_int) (pe_g g__law_take (hr.mono (by decide)) (pa_cons (pv 0) (pa_cons (pe_int) pa_nil)))))
    (pss_cut (ps_if (PW.pt (pw_and (pt_cmpR op_eq (pv 8) (pe_int) (nomark _)) (pw_and1 (pt_cmpR (op_ne_dictA (Nat.lt_of_succ_lt (hu_of hr))) (pv 5) (pe_dnewK) (nomark _)))))
      (pss_never)
      (pss_nil))
    (pss_cons (ps_if (pt_val (pv 3))
      (pss_never)
      (pss_nil))
    (pss_cons (ps_lock (ps_setLc (i := 9) (own := [("_law_one", 12)]) (g := gName 12) rfl nd rfl rfl (sw_true rfl rfl rfl (by decide +kernel)) (pi_keys (pv 4)) (blkOk_by (N := N__law_shop_deed) (sc := defScope s__law_shop_deed) (own := [("_law_one", 12)]) (by decide +kernel)) (fun _ _ _ _ _ => pg_name (i := 12) nd rfl (Or.inl rfl)) (fun _ _ _ _ _ => pts_one (pt_cmpR op_eq (pe_g g__law_level (hr.mono (by decide)) (pa_cons (pv 4) (pa_cons (pv 12) pa_nil))) (pv 2) (nomark _))) (fun _ _ _ _ _ => pv 12)))
    (pss_cons (ps_if (PW.pt (pw_or (pt_cmpR op_lt (pv 8) (pe_int) (nomark _)) (pw_or1 (pt_cmpR (op_eqD hr.units) (pv 9) (pe_lst (pa_nil)) (nomark _)))))
      (pss_one (ps_ret (pe_tup (pa_cons (pe_str) (pa_cons (pe_g g__law_pick (hr.mono (by decide)) (pa_cons (pv 0) (pa_cons (pe_slice sl_list (pe_lock (pe_lc (own := [("_law_one", 12)]) (g := gName 12) rfl nd (pi_keys (pv 4)) (blkOk_by (N := N__law_shop_deed) (sc := defScope s__law_shop_deed) (own := [("_law_one", 12)]) (by decide +kernel)) (fun _ _ _ _ _ => pg_name (i := 12) nd rfl (Or.inl rfl)) (fun _ _ _ _ _ => pts_one (pt_cmpR op_lt (pe_g g__law_level (hr.mono (by decide)) (pa_cons (pv 4) (pa_cons (pv 12) pa_nil))) (pv 2) (nomark _))) (fun _ _ _ _ _ => pv 12))) (po_some (pe_un un_neg (pe_int))) po_none) pa_nil))) pa_nil)))))
      (pss_nil))
    (pss_cut (ps_if (PW.pt (pw_and (pt_cmpR op_lt (pv 8) (pe_int) (nomark _)) (pw_and1 (pt_cmpR (op_neD hr.units) (pv 7) (pe_lst (pa_nil)) (nomark _)))))
      (pss_one (ps_ret (pe_tup (pa_cons (pe_str) (pa_cons (pe_g g__law_pick (hr.mono (by decide)) (pa_cons (pv 0) (pa_cons (pv 7) pa_nil))) pa_nil)))))
      (pss_nil))
    (pss_cons (ps_set (i := 10) nd rfl (Or.inl rfl) (pe_g g__law_pick (hr.mono (by decide)) (pa_cons (pv 0) (pa_cons (pe_lst (pa_cons (pe_str) (pa_cons (pe_str) (pa_cons (pe_str) (pa_cons (pe_str) (pa_cons (pe_str) pa_nil)))))) pa_nil))))
    (pss_one (ps_ret (pe_tup (pa_cons (pv 10) (pa_cons (pe_g g__law_pick (hr.mono (by decide)) (pa_cons (pv 0) (pa_cons (pv 9) pa_nil))) (pa_cons (pe_g g__law_pick (hr.mono (by decide)) (pa_cons (pv 0) (pa_cons (pe_m0 m_Parts_names (hr.mono (by decide)) (pe_pr p_Container_parts (hr.mono (by decide)) (pv 1))) pa_nil))) pa_nil)))))))))))))))), ?_⟩
    have dr := dr0.mono c.same
    have ok := wf.ok
    have d3 := c.st.mok.d3
    have hol := openS_len S.scopes
    obtain ⟨dxb, tb, bk⟩ := c.book
    obtain ⟨sc, esc⟩ : ∃ sc, sc = S.scopes := ⟨_, rfl⟩
    have done : ∀ {H9 : Hp} {n' : Nat} {t : Addr} {d : Deed}, Keep D wl H H9 → DrawAt H9 D wl cl n' → m ≤ n' → H9 t = none → Legal g (S, W) d → (∀ k, d ≠ .run k) → Q (.ref t) (upd H9 t (.tup d.vs)) := fun {H9 n' t d} k9 d9 hmn ht hleg hnr => by
      have s9 : Same H9 (upd H9 t (.tup d.vs)) := Same.new ht
      have k10 := k9.trans (Same.keep s9)
      have d10 := (d9.mono s9).less hmn
      obtain ⟨H0', c', d0', k0'⟩ := c.draws dr0 k10 d10
      exact q _ H0' t d c' d0' k10 k0' (Keep.none d9 k9 ht) upd_same hleg hnr
    -- scopes, jobs
    refine ⟨_, rfl, _, _, _, rfl, c.self, g, H0, A, S, W, rfl, c, hsc, fun E0 H1 s1 nE hE => ?_⟩
    have c1 := c.grow s1
    refine ⟨_, rfl, _, _, _, rfl, c1.self, no_Container_waiting, g, H0, A, S, W, rfl, c1, hw, fun J H2 s2 nJ hJ => ⟨by show 2 ≤ sizeLine; rw [sizeLine_eq]; decide, fun T0 hT0 => ?_⟩⟩
    have s3 : Same H2 (upd H2 T0 (.tup [.ref E0, .ref J])) := Same.new hT0
    have hT3 : (upd H2 T0 (.tup [.ref E0, .ref J])) T0 = some (.tup [.ref E0, .ref J]) := upd_same
    have hE3 := s3 _ _ (s2 _ _ hE)
    have hJ3 := s3 _ _ hJ
    have s13 := (s1.trans s2).trans s3
    have nE0 : H E0 = none := nE
    have nJ0 : H J = none := s1.free nJ
    generalize upd H2 T0 (.tup [.ref E0, .ref J]) = H3 at hT3 hE3 hJ3 s13 ⊢
    refine ⟨T0, _, rfl, SqT.of hT3, rfl, _, _, rfl, _, _, rfl, rfl, ?_⟩
    -- busy
    refine ⟨by show 1 ≤ sizeLine; rw [sizeLine_eq]; decide, fun l0 hl0 => ?_⟩
    have s4 : Same H3 (upd H3 l0 (.lst [.int 0])) := Same.new hl0
    have hl4 : (upd H3 l0 (.lst [.int 0])) l0 = some (.lst [.int 0]) := upd_same
    have hE4 := s4 _ _ hE3
    have hJ4 := s4 _ _ hJ3
    have s14 := s13.trans s4
    generalize upd H3 l0 (.lst [.int 0]) = H4 at s4 hl4 hE4 hJ4 s14 ⊢
    refine ⟨_, rfl, E0, _, rfl, hE4, fun p hp => ?_⟩
    have s5 : Same H4 (upd H4 p (viewO "dict_values" p E0)) := Same.new hp
    have hp5 : (upd H4 p (viewO "dict_values" p E0)) p = some (viewO "dict_values" p E0) := upd_same
    have hE5 := s5 _ _ hE4
    have hJ5 := s5 _ _ hJ4
    have hl5 := s5 _ _ hl4
    have s15 := s14.trans s5
    generalize upd H4 p (viewO "dict_values" p E0) = H5 at s5 hp5 hE5 hJ5 hl5 s15 ⊢
    refine ⟨p, E0, _, rfl, hp5, hE5, fun lv hlv => ?_⟩
    have s6 : Same H5 (upd H5 lv (.lst ((opN S.scopes S.scopes.length).map (·.2)))) := Same.new hlv
    have hv6 : (upd H5 lv (.lst ((opN S.scopes S.scopes.length).map (·.2)))) lv = some (.lst ((opN S.scopes S.scopes.length).map (·.2))) := upd_same
    have hE6 := s6 _ _ hE5
    have hJ6 := s6 _ _ hJ5
    have hl6 := s6 _ _ hl5
    have s16 := s15.trans s6
    generalize upd H5 lv (.lst ((opN S.scopes S.scopes.length).map (·.2))) = H6 at s6 hv6 hE6 hJ6 hl6 s16 ⊢
    have hvl : ((opN S.scopes S.scopes.length).map (·.2)).length ≤ 1000 := by rw [List.length_map]; exact Nat.le_trans (opN_len _ _) hsc
    refine ⟨_, _, _, _, rfl, rfl, hl6, hv6, by show 1 + _ ≤ sizeLine; rw [sizeLine_eq]; omega, fun B hB => ?_⟩
    obtain ⟨bv, hbv⟩ : ∃ bv, bv = [V.int 0] ++ (opN S.scopes S.scopes.length).map (·.2) := ⟨_, rfl⟩
    rw [← hbv]
    have hbf : bv.all flatV = true := by rw [hbv, List.all_append, opV_flat]; rfl
    have s7 : Same H6 (upd H6 B (.lst bv)) := Same.new hB
    have hB7 : (upd H6 B (.lst bv)) B = some (.lst bv) := upd_same
    have hE7 := s7 _ _ hE6
    have hJ7 := s7 _ _ hJ6
    have s17 := s16.trans s7
    generalize upd H6 B (.lst bv) = H7 at s7 hB7 hE7 hJ7 s17 ⊢
    refine ⟨fun σ' H' => ∃ B, σ' = [some (.ref D), some (.ref (A.a .self)), some (.int (g.M.depth : Nat)), some (.bl false), some (.ref E0), some (.ref J), some (.ref B), none, none, none, none, none, none] ∧ Same H H' ∧ H' E0 = some (.dK (opN S.scopes S.scopes.length)) ∧ H' J = some (.dK []) ∧ H' B = some (.lst bv), ?_, ?_⟩
    · have bk7 := bk.mono s17
      have c7 := c.grow s17
      refine ⟨_, rfl, _, _, _, _, rfl, c7.self, lk_Container_c_book, _, _, _, _, rfl, bk7.self, lk_Book_b_works, rfl, _, rfl, ?_⟩
      by_cases hwt : g.bk.works = "wait"
      · rw [decide_eq_true (str_iff.mpr hwt)]
        refine iteT ⟨_, rfl, J, _, hJ7, True.intro, fun od => ?_⟩
        have nBJ : B ≠ J := fun z => by rw [z, hJ7] at hB7; cases hB7
        refine ⟨_, rfl, J, od, [], rfl, upd_same, fun L hL => ?_⟩
        have hLJ : L ≠ J := fun z => by rw [z, upd_same] at hL; cases hL
        have hL0 : H7 L = none := by rw [upd_ne hLJ] at hL; exact hL
        refine lc_it walk_values (fun i H' => H' = upd (upd H7 J (.frz od (.dK []))) L (.lst [])) rfl (fun i H' _ h => by rw [h, upd_ne (Ne.symm hLJ), upd_same]) (fun i x H' H'' hi => absurd hi (Nat.not_lt_zero _)) ?_
        rintro H' rfl
        refine ⟨by rw [upd_ne (Ne.symm hLJ), upd_same], ?_⟩
        have s8 : Same H7 (upd (upd (upd H7 J (.frz od (.dK []))) L (.lst [])) J (.dK [])) := fun b o e => by
          by_cases hb : b = J
          · subst hb
            rw [upd_same, ← e, hJ7]
          · rw [upd_ne hb, upd_ne (ne_of_none e hL0), upd_ne hb]
            exact e
        have hL8 : (upd (upd (upd H7 J (.frz od (.dK []))) L (.lst [])) J (.dK [])) L = some (.lst []) := by rw [upd_ne hLJ, upd_same]
        generalize upd (upd (upd H7 J (.frz od (.dK []))) L (.lst [])) J (.dK []) = H8 at s8 hL8 ⊢
        refine ⟨_, _, _, _, rfl, rfl, s8 _ _ hB7, hL8, by rw [hbv, List.length_append, List.length_singleton, List.length_nil, sizeLine_eq]; omega, fun B2 hB2 => ?_⟩
        rw [List.append_nil]
        have s9 : Same H8 (upd H8 B2 (.lst bv)) := Same.new hB2
        have s89 := s8.trans s9
        exact ⟨B2, rfl, s17.trans s89, s89 _ _ hE7, s89 _ _ hJ7, upd_same⟩
      · rw [decide_eq_false fun z => hwt (str_iff.mp z)]
        exact iteF ⟨B, rfl, s17, hE7, hJ7, hB7⟩
    · rintro σ' H8 ⟨B, rfl, s8, hE8, hJ8, hB8⟩
      -- free
      refine ⟨E0, _, hE8, True.intro, fun od => ?_⟩
      have nBE : B ≠ E0 := fun z => by rw [z, hE8] at hB8; cases hB8
      refine ⟨_, rfl, E0, od, rfl, .inl ⟨_, upd_same, fun Fr hFr => ?_⟩⟩
      have hFE : Fr ≠ E0 := fun z => by rw [z, upd_same] at hFr; cases hFr
      have hF0 : H8 Fr = none := by rw [upd_ne hFE] at hFr; exact hFr
      obtain ⟨b1, hb1⟩ : ∃ b1 : Nat → Bool, b1 = fun i => !inV (.int (i : Nat)) bv := ⟨_, rfl⟩
      refine lc_it walk_keys (fun i H' => H' E0 = some (.frz od (.dK (opN S.scopes S.scopes.length))) ∧ (∀ b o, b ≠ E0 → H8 b = some o → H' b = some o) ∧ H' Fr = some (.lst (iN (((openS S.scopes).take i).filter b1))))
        ⟨by rw [upd_ne (Ne.symm hFE), upd_same], fun b o hb e => by rw [upd_ne (ne_of_none e hF0), upd_ne hb]; exact e, upd_same⟩ (fun i H' _ h => h.1) ?_ ?_
      · rintro i x H' H'' hi ⟨h1, h2, h3⟩ ⟨rfl, k, v, hkv, rfl⟩
        obtain ⟨u, hu, rfl⟩ := open_at hkv
        refine ⟨rfl, _, rfl, _, rfl, B, bv, rfl, .inl (SqL.of (h2 _ _ nBE hB8)), rfl, hbf, _, rfl, ?_⟩
        rw [filt_succ hu]
        have hlen : (iN (((openS S.scopes).take i).filter b1)).length < sizeLine := by
          rw [iN_len]
          have := List.length_filter_le b1 ((openS S.scopes).take i)
          rw [List.length_take] at this
          exact small1000 (by omega)
        have e1 : (if true = true then !inV (kV (Sum.inl (u : Int))) bv else inV (kV (Sum.inl (u : Int))) bv) = b1 u := by rw [hb1]; rfl
        rw [e1]
        cases hbu : b1 u with
        | false =>
          refine iteF ⟨h1, h2, ?_⟩
          rw [if_neg (by decide), List.append_nil]
          exact h3
        | true =>
          refine iteT ⟨_, rfl, _, h3, hlen, by rw [upd_ne (Ne.symm hFE)]; exact h1, fun b o hb e => by rw [upd_ne (ne_of_none e hF0)]; exact h2 b o hb e, ?_⟩
          rw [upd_same, if_pos rfl]
          unfold iN
          rw [List.map_append]
          rfl
      · rintro H' ⟨h1, h2, h3⟩
        rw [show (opN S.scopes S.scopes.length).length = (openS S.scopes).length by rw [opN_openS, List.length_map], List.take_length] at h3
        refine ⟨h1, ?_⟩
        have s9 : Same H8 (upd H' E0 (.dK (opN S.scopes S.scopes.length))) := fun b o e => by
          by_cases hb : b = E0
          · subst hb
            rw [upd_same, ← e, hE8]
          · rw [upd_ne hb]
            exact h2 b o hb e
        have hF9 : (upd H' E0 (.dK (opN S.scopes S.scopes.length))) Fr = some (.lst (iN ((openS S.scopes).filter b1))) := by rw [upd_ne hFE]; exact h3
        have hE9 := s9 _ _ hE8
        have hJ9 := s9 _ _ hJ8
        have nFr : H Fr = none := s8.free hF0
        have s19 := s8.trans s9
        generalize upd H' E0 (.dK (opN S.scopes S.scopes.length)) = H9 at s9 hF9 hE9 hJ9 s19 ⊢
        obtain ⟨fr, hfr⟩ : ∃ fr, fr = (openS S.scopes).filter b1 := ⟨_, rfl⟩
        rw [← hfr] at hF9
        have hfree : ∀ u ∈ fr, Legal g (S, W) (.close u) := fun u hu => by
          rw [hfr] at hu
          obtain ⟨hu1, hu2⟩ := List.mem_filter.mp hu
          rw [hb1] at hu2
          have hu2 : (!inV (.int (u : Nat)) bv) = true := hu2
          have hu3 : inV (.int (u : Nat)) bv = false := by cases z : inV (.int (u : Nat)) bv <;> rw [z] at hu2 <;> first | rfl | cases hu2
          rw [hbv] at hu3
          have hu3 : (eqV (.int 0) (.int (u : Nat)) || inV (.int (u : Nat)) ((opN S.scopes S.scopes.length).map (·.2))) = false := hu3
          obtain ⟨hu4, hu5⟩ := Bool.or_eq_false_iff.mp hu3
          refine ⟨hw, fun z => ?_, openS_mem.mp hu1, fun i x e ha z => ?_⟩
          · rw [z] at hu4
            exact absurd hu4 (by decide)
          · have hin : inV (.int (u : Nat)) ((opN S.scopes S.scopes.length).map (·.2)) = true := by
              rw [opV_eq]
              unfold inV
              rw [List.any_map, List.any_eq_true]
              have hal : alv S.scopes i = true := by rw [alv_of e]; exact ha
              refine ⟨i, List.mem_filter.mpr ⟨List.mem_range.mpr (List.getElem?_eq_some_iff.mp e).1, hal⟩, ?_⟩
              show eqV (oV (undO S.scopes i)) (.int (u : Nat)) = true
              rw [eqV_oV, undO_of e]
              exact decide_eq_true z
            rw [hin] at hu5
            cases hu5
        have hfl : fr.length ≤ 1000 := by
          have := List.length_filter_le b1 (openS S.scopes)
          rw [← hfr] at this
          omega
        -- the way
        refine ⟨_, rfl, _, rfl, iteF ⟨_, rfl, D, wl, cl, m + 9, 10, rfl, by decide, by decide, dr.mono s19, fun H10 v hv k10 dr10 => ?_⟩⟩
        have nn : ∀ {a : Addr} {o : HO}, H a = none → H9 a = some o → H10 a = some o := fun h e => by
          obtain ⟨n1, n2, _⟩ := dr.fresh h
          exact k10 _ _ n1 n2 e
        have hF10 := nn nFr hF9
        have hE10 := nn nE0 hE9
        have hJ10 := nn nJ0 hJ9
        have kk10 := (Same.keep s19).trans k10
        refine ⟨fun σ' H' => σ' = [some (.ref D), some (.ref (A.a .self)), some (.int (g.M.depth : Nat)), some (.bl false), some (.ref E0), some (.ref J), some (.ref B), some (.ref Fr), some (.int (v : Nat)), none, none, none, none] ∧ Same H10 H', ?_, ?_⟩
        · refine ⟨_, rfl, rfl, _, rfl, ?_⟩
          by_cases hv4 : v = 4
          · rw [decide_eq_true (show V.int (v : Nat) = V.int 4 by rw [hv4]; rfl)]
            exact iteT ⟨_, rfl, fun d hd => ⟨J, d, [], [], rfl, rfl, Same.new hd _ _ hJ10, upd_same, rfl, (fun p hp => nomatch hp), _, rfl, iteF ⟨rfl, Same.new hd⟩⟩⟩
          · rw [decide_eq_false fun z => hv4 (by have := int_iff.mp z; omega)]
            exact iteF ⟨rfl, fun _ _ e => e⟩
        · rintro σ' H11 ⟨rfl, s11⟩
          refine ⟨_, rfl, _, rfl, iteF ?_⟩
          have hF11 := s11 _ _ hF10
          have hE11 := s11 _ _ hE10
          have kk11 := kk10.trans (Same.keep s11)
          have dr11 := dr10.mono s11
          -- requests
          refine ⟨E0, _, hE11, True.intro, fun od => ?_⟩
          have nFE : Fr ≠ E0 := fun z => by rw [z, hE11] at hF11; cases hF11
          refine ⟨_, rfl, E0, od, rfl, .inl ⟨_, upd_same, fun Rq hRq => ?_⟩⟩
          have hRE : Rq ≠ E0 := fun z => by rw [z, upd_same] at hRq; cases hRq
          have hR0 : H11 Rq = none := by rw [upd_ne hRE] at hRq; exact hRq
          obtain ⟨b2, hb2⟩ : ∃ b2 : Nat → Bool, b2 = fun i => decide (V.int (lvl S.scopes i : Nat) = V.int (g.M.depth : Nat)) := ⟨_, rfl⟩
          refine lc_it walk_keys (fun i H' => H' E0 = some (.frz od (.dK (opN S.scopes S.scopes.length))) ∧ (∀ b o, b ≠ E0 → H11 b = some o → H' b = some o) ∧ H' Rq = some (.lst (iN (((openS S.scopes).take i).filter b2))))
            ⟨by rw [upd_ne (Ne.symm hRE), upd_same], fun b o hb e => by rw [upd_ne (ne_of_none e hR0), upd_ne hb]; exact e, upd_same⟩ (fun i H' _ h => h.1) ?_ ?_
          · rintro i x H' H'' hi ⟨h1, h2, h3⟩ ⟨rfl, k, v, hkv, rfl⟩
            obtain ⟨u, hu, rfl⟩ := open_at hkv
            obtain ⟨x, ex, hxa⟩ := openS_mem.mp (List.mem_of_getElem? hu)
            refine ⟨rfl, _, rfl, _, rfl, E0, S.scopes, g.M.depth, u, x, rfl, .inr ⟨od, h1⟩, ok, d3, ex, hxa, _, rfl, rfl, _, rfl, ?_⟩
            rw [filt_succ hu]
            have hlen : (iN (((openS S.scopes).take i).filter b2)).length < sizeLine := by
              rw [iN_len]
              have := List.length_filter_le b2 ((openS S.scopes).take i)
              rw [List.length_take] at this
              exact small1000 (by omega)
            have e1 : decide (V.int (x.level : Nat) = V.int (g.M.depth : Nat)) = b2 u := by rw [hb2]; show _ = decide (V.int (lvl S.scopes u : Nat) = _); rw [lvl_of ex]
            rw [e1]
            cases hbu : b2 u with
            | false =>
              refine iteF ⟨h1, h2, ?_⟩
              rw [if_neg (by decide), List.append_nil]
              exact h3
            | true =>
              refine iteT ⟨_, rfl, _, h3, hlen, by rw [upd_ne (Ne.symm hRE)]; exact h1, fun b o hb e => by rw [upd_ne (ne_of_none e hR0)]; exact h2 b o hb e, ?_⟩
              rw [upd_same, if_pos rfl]
              unfold iN
              rw [List.map_append]
              rfl
          · rintro H' ⟨h1, h2, h3⟩
            rw [show (opN S.scopes S.scopes.length).length = (openS S.scopes).length by rw [opN_openS, List.length_map], List.take_length] at h3
            refine ⟨h1, ?_⟩
            have s12 : Same H11 (upd H' E0 (.dK (opN S.scopes S.scopes.length))) := fun b o e => by
              by_cases hb : b = E0
              · subst hb
                rw [upd_same, ← e, hE11]
              · rw [upd_ne hb]
                exact h2 b o hb e
            have hR12 : (upd H' E0 (.dK (opN S.scopes S.scopes.length))) Rq = some (.lst (iN ((openS S.scopes).filter b2))) := by rw [upd_ne hRE]; exact h3
            have hE12 := s12 _ _ hE11
            have hF12 := s12 _ _ hF11
            have kk12 := kk11.trans (Same.keep s12)
            have dr12 := dr11.mono s12
            have nRq := dr11.fresh hR0
            have nFq := dr.fresh nFr
            generalize upd H' E0 (.dK (opN S.scopes S.scopes.length)) = H12 at s12 hR12 hE12 hF12 kk12 dr12 ⊢
            obtain ⟨rq, hrq⟩ : ∃ rq, rq = (openS S.scopes).filter b2 := ⟨_, rfl⟩
            rw [← hrq] at hR12
            have hreq : ∀ u ∈ rq, ∃ x : Scp, S.scopes[u]? = some x ∧ x.alive = true ∧ x.level = g.M.depth := fun u hu => by
              rw [hrq] at hu
              obtain ⟨hu1, hu2⟩ := List.mem_filter.mp hu
              obtain ⟨x, ex, hxa⟩ := openS_mem.mp hu1
              rw [hb2] at hu2
              have hu2 := int_iff.mp (of_decide_eq_true hu2)
              rw [lvl_of ex] at hu2
              exact ⟨x, ex, hxa, by omega⟩
            have hrl : rq.length ≤ 1000 := by
              have := List.length_filter_le b2 (openS S.scopes)
              rw [← hrq] at this
              omega
            refine ⟨_, rfl, _, _, rfl, rfl, _, rfl, ?_⟩
            by_cases hv2 : (v : Int) < 2
            · rw [decide_eq_true hv2]
              refine iteT ?_
              refine ⟨_, rfl, E0, _, hE12, True.intro, fun od => ?_⟩
              refine ⟨_, rfl, E0, od, rfl, .inl ⟨_, upd_same, fun Lq hLq => ?_⟩⟩
              have hLE : Lq ≠ E0 := fun z => by rw [z, upd_same] at hLq; cases hLq
              have hL0 : H12 Lq = none := by rw [upd_ne hLE] at hLq; exact hLq
              obtain ⟨b3, hb3⟩ : ∃ b3 : Nat → Bool, b3 = fun i => decide ((lvl S.scopes i : Int) < (g.M.depth : Nat)) := ⟨_, rfl⟩
              refine lc_it walk_keys (fun i H' => H' E0 = some (.frz od (.dK (opN S.scopes S.scopes.length))) ∧ (∀ b o, b ≠ E0 → H12 b = some o → H' b = some o) ∧ H' Lq = some (.lst (iN (((openS S.scopes).take i).filter b3))))
                ⟨by rw [upd_ne (Ne.symm hLE), upd_same], fun b o hb e => by rw [upd_ne (ne_of_none e hL0), upd_ne hb]; exact e, upd_same⟩ (fun i H' _ h => h.1) ?_ ?_
              · rintro i x H' H'' hi ⟨h1, h2, h3⟩ ⟨rfl, k, v, hkv, rfl⟩
                obtain ⟨u, hu, rfl⟩ := open_at hkv
                obtain ⟨x, ex, hxa⟩ := openS_mem.mp (List.mem_of_getElem? hu)
                refine ⟨rfl, _, rfl, _, rfl, E0, S.scopes, g.M.depth, u, x, rfl, .inr ⟨od, h1⟩, ok, d3, ex, hxa, _, rfl, _, _, rfl, rfl, _, rfl, ?_⟩
                rw [filt_succ hu]
                have hlen : (iN (((openS S.scopes).take i).filter b3)).length < sizeLine := by
                  rw [iN_len]
                  have := List.length_filter_le b3 ((openS S.scopes).take i)
                  rw [List.length_take] at this
                  exact small1000 (by omega)
                have e1 : decide (((x.level : Nat) : Int) < ((g.M.depth : Nat) : Int)) = b3 u := by rw [hb3]; show _ = decide ((lvl S.scopes u : Int) < _); rw [lvl_of ex]
                rw [e1]
                cases hbu : b3 u with
                | false =>
                  refine iteF ⟨h1, h2, ?_⟩
                  rw [if_neg (by decide), List.append_nil]
                  exact h3
                | true =>
                  refine iteT ⟨_, rfl, _, h3, hlen, by rw [upd_ne (Ne.symm hLE)]; exact h1, fun b o hb e => by rw [upd_ne (ne_of_none e hL0)]; exact h2 b o hb e, ?_⟩
                  rw [upd_same, if_pos rfl]
                  unfold iN
                  rw [List.map_append]
                  rfl
              · rintro H' ⟨h1, h2, h3⟩
                rw [show (opN S.scopes S.scopes.length).length = (openS S.scopes).length by rw [opN_openS, List.length_map], List.take_length] at h3
                refine ⟨h1, ?_⟩
                have sQ : Same H12 (upd H' E0 (.dK (opN S.scopes S.scopes.length))) := fun b o e => by
                  by_cases hb : b = E0
                  · subst hb
                    rw [upd_same, ← e, hE12]
                  · rw [upd_ne hb]
                    exact h2 b o hb e
                have hLQ : (upd H' E0 (.dK (opN S.scopes S.scopes.length))) Lq = some (.lst (iN ((openS S.scopes).filter b3))) := by rw [upd_ne hLE]; exact h3
                have kkQ := kk12.trans (Same.keep sQ)
                have drQ := dr12.mono sQ
                generalize upd H' E0 (.dK (opN S.scopes S.scopes.length)) = HQ at sQ hLQ kkQ drQ ⊢
                obtain ⟨lo, hlo⟩ : ∃ lo, lo = (openS S.scopes).filter b3 := ⟨_, rfl⟩
                rw [← hlo] at hLQ
                have hlow : ∀ u ∈ lo, Legal g (S, W) (.begin u) := fun u hu => by
                  rw [hlo] at hu
                  obtain ⟨hu1, hu2⟩ := List.mem_filter.mp hu
                  obtain ⟨x, ex, hxa⟩ := openS_mem.mp hu1
                  rw [hb3] at hu2
                  have hu2 : (lvl S.scopes u : Int) < (g.M.depth : Nat) := of_decide_eq_true hu2
                  rw [lvl_of ex] at hu2
                  exact ⟨hw, x, ex, hxa, by omega⟩
                have hlne : lo ≠ [] := fun z => by
                  have hd1 := c.st.mok.d1
                  have h0 : 0 ∈ lo := by
                    rw [hlo]
                    refine List.mem_filter.mpr ⟨openS_mem.mpr ⟨_, ok.z, rfl⟩, ?_⟩
                    rw [hb3]
                    show decide ((lvl S.scopes 0 : Int) < (g.M.depth : Nat)) = true
                    rw [lvl_of ok.z]
                    exact decide_eq_true (by show (0 : Int) < _; omega)
                  rw [z] at h0
                  cases h0
                refine ⟨_, rfl, _, rfl, Lq, _, rfl, SqL.of hLQ, fun pc hpc => ?_⟩
                have sP : Same HQ (upd HQ pc (.lst (cutV (iN lo) (some (-3)) none))) := Same.new hpc
                have hcl : (cutV (iN lo) (some (-3)) none).length ≤ 1000 := by
                  have h1 := cutV_length (iN lo) (some (-3)) none
                  rw [iN_len] at h1
                  have := List.length_filter_le b3 (openS S.scopes)
                  rw [← hlo] at this
                  omega
                refine ⟨D, wl, cl, m + 8, pc, _, rfl, .inl ⟨upd_same, (drQ.fresh hpc).2.1⟩, cut3_ne hlne, by omega, drQ.mono sP, fun HR x hx kR drR => ⟨by show 2 ≤ sizeLine; rw [sizeLine_eq]; decide, fun t ht => ?_⟩⟩
                obtain ⟨u, hu, rfl⟩ := cut3_mem hx
                exact done (d := .begin u) (kkQ.trans ((Same.keep sP).trans kR)) drR (by omega) ht (hlow u hu) fun _ z => by cases z
            · rw [decide_eq_false hv2]
              refine iteF ⟨_, rfl, Nat.zero_le _, fun pe hpe => ?_⟩
              have s13 : Same H12 (upd H12 pe (.lst [])) := Same.new hpe
              have hR13 := s13 _ _ hR12
              have hE13 := s13 _ _ hE12
              have hF13 := s13 _ _ hF12
              have kk13 := kk12.trans (Same.keep s13)
              have dr13 := dr12.mono s13
              refine eq_nil (ns := iZ rq) (SqL.of (by rw [← iN_iZ]; exact hR13)) (SqL.of upd_same) ⟨_, rfl, ?_⟩
              generalize upd H12 pe (.lst []) = H13 at s13 hR13 hE13 hF13 kk13 dr13 ⊢
              cases hrc : (iZ rq).isEmpty with
              | true =>
                refine iteT ?_
                refine ⟨_, rfl, E0, _, hE13, True.intro, fun od => ?_⟩
                refine ⟨_, rfl, E0, od, rfl, .inl ⟨_, upd_same, fun Lq hLq => ?_⟩⟩
                have hLE : Lq ≠ E0 := fun z => by rw [z, upd_same] at hLq; cases hLq
                have hL0 : H13 Lq = none := by rw [upd_ne hLE] at hLq; exact hLq
                obtain ⟨b3, hb3⟩ : ∃ b3 : Nat → Bool, b3 = fun i => decide ((lvl S.scopes i : Int) < (g.M.depth : Nat)) := ⟨_, rfl⟩
                refine lc_it walk_keys (fun i H' => H' E0 = some (.frz od (.dK (opN S.scopes S.scopes.length))) ∧ (∀ b o, b ≠ E0 → H13 b = some o → H' b = some o) ∧ H' Lq = some (.lst (iN (((openS S.scopes).take i).filter b3))))
                  ⟨by rw [upd_ne (Ne.symm hLE), upd_same], fun b o hb e => by rw [upd_ne (ne_of_none e hL0), upd_ne hb]; exact e, upd_same⟩ (fun i H' _ h => h.1) ?_ ?_
                · rintro i x H' H'' hi ⟨h1, h2, h3⟩ ⟨rfl, k, v, hkv, rfl⟩
                  obtain ⟨u, hu, rfl⟩ := open_at hkv
                  obtain ⟨x, ex, hxa⟩ := openS_mem.mp (List.mem_of_getElem? hu)
                  refine ⟨rfl, _, rfl, _, rfl, E0, S.scopes, g.M.depth, u, x, rfl, .inr ⟨od, h1⟩, ok, d3, ex, hxa, _, rfl, _, _, rfl, rfl, _, rfl, ?_⟩
                  rw [filt_succ hu]
                  have hlen : (iN (((openS S.scopes).take i).filter b3)).length < sizeLine := by
                    rw [iN_len]
                    have := List.length_filter_le b3 ((openS S.scopes).take i)
                    rw [List.length_take] at this
                    exact small1000 (by omega)
                  have e1 : decide (((x.level : Nat) : Int) < ((g.M.depth : Nat) : Int)) = b3 u := by rw [hb3]; show _ = decide ((lvl S.scopes u : Int) < _); rw [lvl_of ex]
                  rw [e1]
                  cases hbu : b3 u with
                  | false =>
                    refine iteF ⟨h1, h2, ?_⟩
                    rw [if_neg (by decide), List.append_nil]
                    exact h3
                  | true =>
                    refine iteT ⟨_, rfl, _, h3, hlen, by rw [upd_ne (Ne.symm hLE)]; exact h1, fun b o hb e => by rw [upd_ne (ne_of_none e hL0)]; exact h2 b o hb e, ?_⟩
                    rw [upd_same, if_pos rfl]
                    unfold iN
                    rw [List.map_append]
                    rfl
                · rintro H' ⟨h1, h2, h3⟩
                  rw [show (opN S.scopes S.scopes.length).length = (openS S.scopes).length by rw [opN_openS, List.length_map], List.take_length] at h3
                  refine ⟨h1, ?_⟩
                  have sQ : Same H13 (upd H' E0 (.dK (opN S.scopes S.scopes.length))) := fun b o e => by
                    by_cases hb : b = E0
                    · subst hb
                      rw [upd_same, ← e, hE13]
                    · rw [upd_ne hb]
                      exact h2 b o hb e
                  have hLQ : (upd H' E0 (.dK (opN S.scopes S.scopes.length))) Lq = some (.lst (iN ((openS S.scopes).filter b3))) := by rw [upd_ne hLE]; exact h3
                  have kkQ := kk13.trans (Same.keep sQ)
                  have drQ := dr13.mono sQ
                  generalize upd H' E0 (.dK (opN S.scopes S.scopes.length)) = HQ at sQ hLQ kkQ drQ ⊢
                  obtain ⟨lo, hlo⟩ : ∃ lo, lo = (openS S.scopes).filter b3 := ⟨_, rfl⟩
                  rw [← hlo] at hLQ
                  have hlow : ∀ u ∈ lo, Legal g (S, W) (.begin u) := fun u hu => by
                    rw [hlo] at hu
                    obtain ⟨hu1, hu2⟩ := List.mem_filter.mp hu
                    obtain ⟨x, ex, hxa⟩ := openS_mem.mp hu1
                    rw [hb3] at hu2
                    have hu2 : (lvl S.scopes u : Int) < (g.M.depth : Nat) := of_decide_eq_true hu2
                    rw [lvl_of ex] at hu2
                    exact ⟨hw, x, ex, hxa, by omega⟩
                  have hlne : lo ≠ [] := fun z => by
                    have hd1 := c.st.mok.d1
                    have h0 : 0 ∈ lo := by
                      rw [hlo]
                      refine List.mem_filter.mpr ⟨openS_mem.mpr ⟨_, ok.z, rfl⟩, ?_⟩
                      rw [hb3]
                      show decide ((lvl S.scopes 0 : Int) < (g.M.depth : Nat)) = true
                      rw [lvl_of ok.z]
                      exact decide_eq_true (by show (0 : Int) < _; omega)
                    rw [z] at h0
                    cases h0
                  refine ⟨_, rfl, _, rfl, Lq, _, rfl, SqL.of hLQ, fun pc hpc => ?_⟩
                  have sP : Same HQ (upd HQ pc (.lst (cutV (iN lo) (some (-3)) none))) := Same.new hpc
                  have hcl : (cutV (iN lo) (some (-3)) none).length ≤ 1000 := by
                    have h1 := cutV_length (iN lo) (some (-3)) none
                    rw [iN_len] at h1
                    have := List.length_filter_le b3 (openS S.scopes)
                    rw [← hlo] at this
                    omega
                  refine ⟨D, wl, cl, m + 8, pc, _, rfl, .inl ⟨upd_same, (drQ.fresh hpc).2.1⟩, cut3_ne hlne, by omega, drQ.mono sP, fun HR x hx kR drR => ⟨by show 2 ≤ sizeLine; rw [sizeLine_eq]; decide, fun t ht => ?_⟩⟩
                  obtain ⟨u, hu, rfl⟩ := cut3_mem hx
                  exact done (d := .begin u) (kkQ.trans ((Same.keep sP).trans kR)) drR (by omega) ht (hlow u hu) fun _ z => by cases z
              | false =>
                have hrne : rq ≠ [] := fun z => by rw [z] at hrc; cases hrc
                refine iteF ?_
                refine ⟨fun σ' H' => σ' = [some (.ref D), some (.ref (A.a .self)), some (.int (g.M.depth : Nat)), some (.bl false), some (.ref E0), some (.ref J), some (.ref B), some (.ref Fr), some (.int (v : Nat)), some (.ref Rq), none, none, none] ∧ Same H13 H', ?_, ?_⟩
                · refine ⟨_, rfl, _, _, rfl, rfl, _, rfl, ?_⟩
                  by_cases hv4 : (v : Int) < 4
                  · rw [decide_eq_true hv4]
                    refine iteT ⟨_, rfl, Nat.zero_le _, fun pf hpf => ?_⟩
                    have s14 : Same H13 (upd H13 pf (.lst [])) := Same.new hpf
                    refine ne_nil (ns := iZ fr) (SqL.of (by rw [← iN_iZ]; exact s14 _ _ hF13)) (SqL.of upd_same) ⟨_, rfl, ?_⟩
                    have hF14 := s14 _ _ hF13
                    have kk14 := kk13.trans (Same.keep s14)
                    have dr14 := dr13.mono s14
                    generalize upd H13 pf (.lst []) = H14 at s14 hF14 kk14 dr14 ⊢
                    cases hfc : (iZ fr).isEmpty with
                    | true => exact iteF ⟨rfl, s14⟩
                    | false =>
                      have hfne : iN fr ≠ [] := fun z => by
                        have : fr = [] := by cases fr with
                          | nil => rfl
                          | cons a b => cases z
                        rw [this] at hfc; cases hfc
                      refine iteT ⟨_, rfl, _, rfl, D, wl, cl, m + 8, Fr, iN fr, rfl, .inl ⟨hF14, nFq.2.1⟩, hfne, by rw [iN_len]; omega, dr14, fun H15 x hx k15 dr15 => ⟨by show 2 ≤ sizeLine; rw [sizeLine_eq]; decide, fun t ht => ?_⟩⟩
                      obtain ⟨u, hu, rfl⟩ := iN_mem hx
                      exact done (d := .close u) (kk14.trans k15) dr15 (by omega) ht (hfree u hu) fun _ z => by cases z
                  · rw [decide_eq_false hv4]
                    exact iteF ⟨rfl, fun _ _ e => e⟩
                · rintro σ' H14 ⟨rfl, s14⟩
                  have hR14 := s14 _ _ hR13
                  have kk14 := kk13.trans (Same.keep s14)
                  have dr14 := dr13.mono s14
                  refine ⟨_, rfl, by show 5 ≤ sizeLine; rw [sizeLine_eq]; decide, fun l hl => pick_new (K := K) (m := m + 8) (ws := ["use", "use", "use", "ask", "later"]) dr14 hl (by decide) (by decide) fun H15 z hz k15 dr15 => ?_⟩
                  have hR15 := k15 Rq _ nRq.1 nRq.2.1 hR14
                  refine ⟨_, rfl, _, rfl, _, rfl, D, wl, cl, m + 7, Rq, iN rq, rfl, .inl ⟨hR15, nRq.2.1⟩, (fun z => hrne (by cases rq with
                    | nil => rfl
                    | cons a b => cases z)), by rw [iN_len]; omega, dr15, fun H16 x hx k16 dr16 => ?_⟩
                  obtain ⟨u, hu, rfl⟩ := iN_mem hx
                  obtain ⟨xu, exu, hxu1, hxu2⟩ := hreq u hu
                  have kk16 := kk14.trans (k15.trans k16)
                  obtain ⟨H0', c16, _, _⟩ := c.draws dr0 kk16 dr16
                  obtain ⟨dxp, gd, kvsp, pt⟩ := c16.parts
                  refine ⟨_, rfl, _, rfl, _, _, _, _, rfl, c16.self, lk_Container_c_parts, _, _, _, rfl, pt.self, no_Parts_names, g.pa, g.M, dxp, gd, kvsp, rfl, pt, fun tn htn => ?_⟩
                  have s17 : Same H16 (upd H16 tn (.tup (g.M.names.map V.str))) := Same.new htn
                  refine ⟨D, wl, cl, m + 6, tn, g.M.names.map V.str, rfl, .inr upd_same, (fun z => c.st.mok.ne (List.map_eq_nil_iff.mp z)), by rw [List.length_map]; omega, dr16.mono s17, fun H18 x hx k18 dr18 => ⟨by show 3 ≤ sizeLine; rw [sizeLine_eq]; decide, fun t ht => ?_⟩⟩
                  obtain ⟨nm, rfl, hnm2⟩ := strs_mem hx
                  have kk18 := kk16.trans ((Same.keep s17).trans k18)
                  have hra : ReqAt g S u nm := ⟨xu, exu, hxu1, hxu2, (c.st.mok.dom nm).mp hnm2⟩
                  have hz : z ∈ (["use", "use", "use", "ask", "later"] : List Str) := hz
                  simp only [List.mem_cons, List.not_mem_nil, or_false] at hz
                  rcases hz with rfl | rfl | rfl | rfl | rfl
                  · exact done (d := .use u nm) kk18 dr18 (by omega) ht ⟨hw, hra⟩ fun _ z => by cases z
                  · exact done (d := .use u nm) kk18 dr18 (by omega) ht ⟨hw, hra⟩ fun _ z => by cases z
                  · exact done (d := .use u nm) kk18 dr18 (by omega) ht ⟨hw, hra⟩ fun _ z => by cases z
                  · exact done (d := .ask u nm) kk18 dr18 (by omega) ht ⟨hw, hra⟩ fun _ z => by cases z
                  · exact done (d := .later u nm) kk18 dr18 (by omega) ht ⟨hw, hra⟩ fun _ z => by cases z
end
end K94
set_option maxHeartbeats 4000000
/-! histories -/
namespace K94
open PySem PySem.Spec PyProof.Rows L2 StX
/-- a history that can be done, and stays small -/
def Hist (g : Gam) : CW → List Deed → Prop
  | _, [] => True
  | q, d :: ds => Legal g q d ∧ q.1.scopes.length < 1000 ∧ sz (preD g q d).1.1 ≤ BIG ∧ sz (stepD g q d).1.1 ≤ BIG ∧ Hist g (stepD g q d).1 ds
noncomputable def endD (g : Gam) (q : CW) (ds : List Deed) : CW := ds.foldl (fun q d => (stepD g q d).1) q
noncomputable def ansD (g : Gam) : CW → List Deed → List (Option Nat)
  | _, [] => []
  | q, d :: ds => (stepD g q d).2 :: ansD g (stepD g q d).1 ds
theorem endD_take {g : Gam} {q : CW} {ds : List Deed} {i : Nat} {d : Deed} (h : ds[i]? = some d) : endD g q (ds.take (i + 1)) = (stepD g (endD g q (ds.take i)) d).1 := take_succ h
theorem Hist.at {g : Gam} : ∀ {q : CW} {ds : List Deed} {i : Nat} {d : Deed}, Hist g q ds → ds[i]? = some d → Legal g (endD g q (ds.take i)) d ∧ (endD g q (ds.take i)).1.scopes.length < 1000 ∧ sz (preD g (endD g q (ds.take i)) d).1.1 ≤ BIG ∧ sz (stepD g (endD g q (ds.take i)) d).1.1 ≤ BIG
  | q, [], i, d, _, h => by simp at h
  | q, a :: ds, 0, d, hh, h => by
    simp at h
    subst h
    exact ⟨hh.1, hh.2.1, hh.2.2.1, hh.2.2.2.1⟩
  | q, a :: ds, i + 1, d, hh, h => by
    have h : ds[i]? = some d := by simpa using h
    exact Hist.at (q := (stepD g q a).1) (ds := ds) (i := i) hh.2.2.2.2 h
theorem ansD_take {g : Gam} : ∀ {q : CW} {ds : List Deed} {i : Nat} {d : Deed}, ds[i]? = some d → ansD g q (ds.take (i + 1)) = ansD g q (ds.take i) ++ [(stepD g (endD g q (ds.take i)) d).2]
  | q, [], i, d, h => by simp at h
  | q, a :: ds, 0, d, h => by
    simp at h
    subst h
    rfl
  | q, a :: ds, i + 1, d, h => by
    have h : ds[i]? = some d := by simpa using h
    show _ :: ansD g _ (ds.take (i + 1)) = _ :: (ansD g _ (ds.take i) ++ _)
    rw [ansD_take h]
    rfl
theorem ansD_len {g : Gam} : ∀ {q : CW} {ds : List Deed}, (ansD g q ds).length = ds.length
  | _, [] => rfl
  | q, d :: ds => congrArg Nat.succ (ansD_len (q := (stepD g q d).1) (ds := ds))
theorem WF.zero {g : Gam} : WF g Cor.zero := ⟨⟨rfl, fun i x e hi => by
    cases i with
    | zero => exact absurd rfl hi
    | succ i => simp [Cor.zero] at e, fun i x e => by
    cases i with
    | zero => simp [Cor.zero] at e; subst e; exact Nat.zero_le _
    | succ i => simp [Cor.zero] at e⟩, ⟨fun k t _ e => by simp [Cor.zero] at e, fun e he => nomatch he⟩, fun n hn => nomatch hn⟩
theorem Hist.wf {g : Gam} (mok : g.M.Ok) {q : CW} : ∀ {ds : List Deed} (i : Nat), Hist g q ds → WF g q.1 → WF g (endD g q (ds.take i)).1
  | ds, 0, _, wf => wf
  | ds, i + 1, hh, wf => by
    cases e : ds[i]? with
    | none => rw [List.take_add_one, e, Option.toList, List.append_nil]; exact Hist.wf mok i hh wf
    | some d => rw [endD_take e]; exact stepD_wf mok (Hist.wf mok i hh wf) (hh.at e).1
section
variable {P : Program} {w : World} {K : PySem.W.Frag} {mg : Str → Option Value} {base : Heap} {f : Addr} {fd : FuncData}
def spPlayed (K : PySem.W.Frag) : Sp := fun vs H Q _ => ∃ (g : Gam) (hl : Addr) (us : List V) (ds : List Deed), vs = [.ref g.b, .ref g.pa, .ref hl] ∧ Stat K H g ∧ H hl = some (.lst us) ∧ DeedsAt H us ds ∧ Hist g (Cor.zero, Wks.zero) ds ∧ ds.length ≤ 1000 ∧
  ∀ T A an H', Ctr K g H H' A (endD g (Cor.zero, Wks.zero) ds).1 (endD g (Cor.zero, Wks.zero) ds).2 → H' T = some (.tup [.ref (A.a .self), .ref an]) → H' an = some (.lst ((ansD g (Cor.zero, Wks.zero) ds).map oV)) → Q (.ref T) H'
theorem ok_played (F : FnP K "played" "played" s_played f fd) (T : Txt K mg) (tLE : ∃ c, mg "LifeError" = some c) (k_Container : GC P w K mg base 8 "Container" (CContainer K) P_Container___init__ (spCInit K)) (g_is_deed : GF P w K mg base 1 "is_deed" P_is_deed spIsDeed)
    {k : Nat} (hk : 20 ≤ k) (m_Container_answer : GM P w K mg base k (CContainer K) "answer" P_Container_answer (spAnswer K)) : FnOk P w K mg base CX0 (k + 1) f fd P_played (spPlayed K) := by
  refine okD F sc_played (fun vs H Q E h => ?_) (fun cdv A outer s H vs Q E hr h => ?_)
  · obtain ⟨_, _, _, _, rfl, _⟩ := h; rfl
  · obtain ⟨g, hl, us, ds, rfl, st, hhl, hds, hh, hlen, q⟩ := h
    have nd := sc_played.nd
    obtain ⟨cle, hcle⟩ := tLE
    refine ⟨_, pss_cons (ps_par (i := 3) (j := 4) (by rfl) nd rfl rfl (by decide) rfl rfl (pa_cons (pe_c k_Container (hr.mono (by omega)) (pa_cons (pv 0) (pa_cons (pv 1) pa_nil))) (pa_cons (pe_lst (pa_nil)) pa_nil)) (by rfl))
    (pss_cons (ps_if (pt_not (pt_val (pe_callB call_isiT (by rfl) T.f_isinstance (by decide +kernel) (pa_cons (pv 2) (pa_cons (pe_tup (pa_cons (pe_bltn (v := .ty "list") rfl T.f_list boot_list rfl) (pa_cons (pe_bltn (v := .ty "tuple") rfl T.f_tuple boot_tuple rfl) pa_nil))) pa_nil)))))
      (pss_never)
      (pss_nil))
    (pss_cons (ps_for PassesOwn.never rfl (pi_enum (by rfl) T.f_enumerate (pa_cons (pv 2) pa_nil)) (pg_tup rfl (pgs_cons (pg_name (i := 5) nd rfl (Or.inl rfl)) (pgs_cons (pg_name (i := 6) nd rfl (Or.inl rfl)) pgs_nil)))
      (pss_cons (ps_if (pt_not (pt_val (pe_g g_is_deed (hr.mono (by omega)) (pa_cons (pv 6) pa_nil))))
        (pss_never)
        (pss_nil))
      (pss_one (ps_try_only (X := (cxOf CX0 P w K mg base N_played "played" (defScope s_played) f cdv A outer s H E).nox) (tb := fun _ => tDrop (tBM K "list" rAppend (tVar 4) (tCons (tMeth (CContainer K) "answer" (spAnswer K) [] E0 (tVar 3) (tCons (tVar 6) tNil)) tNil))) (ts := fun _ _ _ => tNever) (c := cle) (Wout := fun _ _ _ _ => False) rfl rfl ⟨by rfl, by decide, .inl hcle⟩ (fun _ _ ⟨_, _, _, _, _, _, _, _, _, _, _, _, _, _, _, _, w⟩ => w.elim)
        (fun W pn xe tk px => pss_one (ps_expr (pe_bm PySem.F.plainAttrs_list PySem.F.slot_list_append PySem.F.type_list_append mt_append (pv 4) (pa_cons (pe_m m_Container_answer hr (pv 3) (pa_cons (pv 6) pa_nil)) pa_nil))))
        (fun a oe cls d pn hz he => pss_never)))))
    (pss_one (ps_ret (pe_tup (pa_cons (pv 3) (pa_cons (pv 4) pa_nil))))))), ?_⟩
    refine ⟨_, rfl, _, rfl, fun y dy ny ndy hne => ?_⟩
    have sM : Same H (upd (upd H dy (.own y)) y (.ins (CContainer K) dy [])) := (Same.new ndy).trans (Same.new (by rw [upd_ne (Ne.symm hne)]; exact ny))
    refine ⟨y, dy, g, H, rfl, st, sM, ny, upd_same, fun A1 H1 c1 ea => ⟨rfl, Nat.zero_le _, fun an han => ⟨_, _, rfl, ?_⟩⟩⟩
    have nan : H an = none := c1.same.free han
    have nlan : hl ≠ an := fun z => by rw [z, nan] at hhl; cases hhl
    have c2 := c1.other (o := .lst []) han
    have sB : ∀ xs, Same H (upd H an (.lst xs)) := fun xs => Same.new nan
    generalize upd H1 an (.lst []) = H2 at c2 ⊢
    refine ⟨_, rfl, by show 2 ≤ sizeLine; rw [sizeLine_eq]; decide, fun t ht => ?_⟩
    have s3 : Same H2 (upd H2 t (.tup [.ty "list", .ty "tuple"])) := Same.new ht
    have htt : (upd H2 t (.tup [.ty "list", .ty "tuple"])) t = some (.tup [.ty "list", .ty "tuple"]) := upd_same
    have c3 := c2.grow s3
    generalize upd H2 t (.tup [.ty "list", .ty "tuple"]) = H3 at htt c3 ⊢
    have hhl3 : H3 hl = some (.lst us) := c3.same _ _ (sB _ _ _ hhl)
    refine ⟨_, t, _, .type "list", _, true, rfl, htt, .cons (.ty _) (.cons (.ty _) .nil), .base (.lst hhl3), kitAny_lt_list, _, rfl, iteF ?_⟩
    refine ⟨_, rfl, hl, us, rfl, SqL.of hhl3, for_it (walk_enum (K := K) (xs := us)) (fun i σ H' => ∃ (A : Ad) (v5 v6 : Option V), σ = [some (.ref g.b), some (.ref g.pa), some (.ref hl), some (.ref y), some (.ref an), v5, v6] ∧ A.a .self = y ∧ Ctr K g (upd H an (.lst ((ansD g (Cor.zero, Wks.zero) (ds.take i)).map oV))) H' A (endD g (Cor.zero, Wks.zero) (ds.take i)).1 (endD g (Cor.zero, Wks.zero) (ds.take i)).2)
      ⟨A1, none, none, rfl, ea, c3⟩ (fun i σ H' _ ⟨_, _, _, _, _, c'⟩ => SqL.of (c'.same _ _ (sB _ _ _ hhl))) ?_ ?_⟩
    · rintro i xx σ H' H'' hi ⟨A, v5, v6, rfl, ea', c'⟩ ⟨Tt, x1, x2, rfl, nT, rfl, e1, e2⟩
      cases e1
      obtain ⟨d, hd, a, rfl, hda⟩ := Paired.get hds e2
      obtain ⟨hleg, hsc, hz1, hz2⟩ := hh.at hd
      have wfi := Hist.wf st.mok i hh WF.zero
      have s6 : Same H' (upd H' Tt (.tup [.int (i : Nat), .ref a])) := Same.new nT
      have htt6 : (upd H' Tt (.tup [.int (i : Nat), .ref a])) Tt = some (.tup [.int (i : Nat), .ref a]) := upd_same
      have c6 := c'.grow s6
      generalize upd H' Tt (.tup [.int (i : Nat), .ref a]) = H6 at htt6 c6 ⊢
      have hda6 : DeedAt H6 a d := c6.same _ _ (sB _ _ _ hda)
      rw [endD_take hd, ansD_take hd, List.map_append]
      have hxl : ((ansD g (Cor.zero, Wks.zero) (ds.take i)).map oV).length ≤ 1000 := by rw [List.length_map, ansD_len, List.length_take]; omega
      generalize (ansD g (Cor.zero, Wks.zero) (ds.take i)).map oV = xs at c6 hxl ⊢
      generalize endD g (Cor.zero, Wks.zero) (ds.take i) = q0 at *
      obtain ⟨S, W⟩ := q0
      have han6 : H6 an = some (.lst xs) := c6.same _ _ upd_same
      refine ⟨Tt, _, rfl, SqT.of htt6, rfl, _, _, rfl, _, _, rfl, rfl, ?_⟩
      refine ⟨_, rfl, a, d, rfl, hda6, _, rfl, iteF ⟨_, rfl, .inl ⟨rfl, _, SqL.of han6⟩, _, rfl, _, _, _, rfl, by rw [← ea']; exact c6.self, no_Container_answer, _, rfl, g, _, A, S, W, a, d, by rw [ea']; rfl, hda6, ⟨c6, wfi, hleg, hsc, hz1, hz2⟩, fun H7 A7 c7 ea7 tu7 => ?_⟩⟩
      have han7 : H7 an = some (.lst xs) := c7.same _ _ upd_same
      refine ⟨an, xs, _, rfl, rfl, han7, small1000 hxl, A7, _, _, rfl, ea7.trans ea', ?_⟩
      have c8 := c7.wr (o2 := .lst (xs ++ [oV (stepD g (S, W) d).2])) upd_same True.intro (by rw [upd_upd]; exact st.mono (sB _))
      rw [upd_upd] at c8
      exact c8
    · rintro σ H' ⟨A, v5, v6, rfl, ea', c'⟩
      rw [Paired.length hds, List.take_length] at c'
      refine ⟨_, rfl, _, rfl, by show 2 ≤ sizeLine; rw [sizeLine_eq]; decide, fun T0 hT => ?_⟩
      have s9 : Same H' (upd H' T0 (.tup [.ref y, .ref an])) := Same.new hT
      have c9 := c'.grow s9
      exact q T0 A an _ (c9.drop (sB _) st) (by rw [ea']; exact upd_same) (c9.same _ _ upd_same)
def spReplayed (K : PySem.W.Frag) : Sp := fun vs H Q _ => ∃ (g : Gam) (hl : Addr) (us : List V) (ds : List Deed), vs = [.ref g.b, .ref g.pa, .ref hl] ∧ Stat K H g ∧ H hl = some (.lst us) ∧ DeedsAt H us ds ∧ Hist g (Cor.zero, Wks.zero) ds ∧ ds.length ≤ 1000 ∧
  ∀ A H', Ctr K g H H' A (endD g (Cor.zero, Wks.zero) ds).1 (endD g (Cor.zero, Wks.zero) ds).2 → Q (.ref (A.a .self)) H'
theorem ok_replayed {k : Nat} (F : FnP K "replayed" "replayed" s_replayed f fd) (T : Txt K mg) (g_played : GF P w K mg base k "played" P_played (spPlayed K)) : FnOk P w K mg base CX0 (k + 1) f fd P_replayed (spReplayed K) := by
  refine okD F sc_replayed (fun vs H Q E h => ?_) (fun cdv A outer s H vs Q E hr h => ?_)
  · obtain ⟨_, _, _, _, rfl, _⟩ := h; rfl
  · obtain ⟨g, hl, us, ds, rfl, st, hhl, hds, hh, hlen, q⟩ := h
    refine ⟨_, pss_one (ps_ret (pe_ix ix_tup (pe_g g_played hr (pa_cons (pv 0) (pa_cons (pv 1) (pa_cons (pv 2) pa_nil)))) (pe_int) (fun _ _ => rfl))), ?_⟩
    exact ⟨_, rfl, _, rfl, _, rfl, g, hl, us, ds, rfl, st, hhl, hds, hh, hlen, fun T0 A an H' c hT han => ⟨T0, _, 0, _, rfl, rfl, SqT.of hT, rfl, q A H' c⟩⟩
def spAnswers (K : PySem.W.Frag) : Sp := fun vs H Q _ => ∃ (g : Gam) (hl : Addr) (us : List V) (ds : List Deed), vs = [.ref g.b, .ref g.pa, .ref hl] ∧ Stat K H g ∧ H hl = some (.lst us) ∧ DeedsAt H us ds ∧ Hist g (Cor.zero, Wks.zero) ds ∧ ds.length ≤ 1000 ∧
  ∀ an H', Same H H' → H' an = some (.lst ((ansD g (Cor.zero, Wks.zero) ds).map oV)) → Q (.ref an) H'
theorem ok_answers_of {k : Nat} (F : FnP K "answers_of" "answers_of" s_answers_of f fd) (T : Txt K mg) (g_played : GF P w K mg base k "played" P_played (spPlayed K)) : FnOk P w K mg base CX0 (k + 1) f fd P_answers_of (spAnswers K) := by
  refine okD F sc_answers_of (fun vs H Q E h => ?_) (fun cdv A outer s H vs Q E hr h => ?_)
  · obtain ⟨_, _, _, _, rfl, _⟩ := h; rfl
  · obtain ⟨g, hl, us, ds, rfl, st, hhl, hds, hh, hlen, q⟩ := h
    refine ⟨_, pss_one (ps_ret (pe_ix ix_tup (pe_g g_played hr (pa_cons (pv 0) (pa_cons (pv 1) (pa_cons (pv 2) pa_nil)))) (pe_int) (fun _ _ => rfl))), ?_⟩
    exact ⟨_, rfl, _, rfl, _, rfl, g, hl, us, ds, rfl, st, hhl, hds, hh, hlen, fun T0 A an H' c hT han => ⟨T0, _, 1, _, rfl, rfl, SqT.of hT, rfl, q an H' c.same han⟩⟩
end
end K94
set_option maxHeartbeats 4000000
/-! uses as works; what is returned -/
namespace K94
open PySem PySem.Spec PyProof.Rows L2 StX
def asStep (q : List Deed × Nat) (d : Deed) : List Deed × Nat := match d with
  | .use r n => (q.1 ++ [.later r n, .run q.2], q.2 + 1)
  | d => (q.1 ++ [d], q.2)
def asW (ds : List Deed) : List Deed := (ds.foldl asStep ([], 0)).1
def retD : List Deed → List (Option Nat) → List (Option Nat)
  | d :: ds, a :: as => if d.word = "later" then retD ds as else a :: retD ds as
  | _, _ => []
theorem asStep_len (q : List Deed × Nat) (d : Deed) : (asStep q d).1.length ≤ q.1.length + 2 := by
  cases d <;> simp [asStep]
theorem asFold_len (ds : List Deed) (q : List Deed × Nat) : (ds.foldl asStep q).1.length ≤ q.1.length + 2 * ds.length := by
  induction ds generalizing q with
  | nil => exact Nat.le_refl _
  | cons d ds ih =>
    have h1 := ih (asStep q d)
    have h2 := asStep_len q d
    rw [List.length_cons]
    show ((ds.foldl asStep (asStep q d)).1).length ≤ _
    omega
theorem retD_snoc : ∀ {ds : List Deed} {as : List (Option Nat)} {d : Deed} {a : Option Nat}, as.length = ds.length → retD (ds ++ [d]) (as ++ [a]) = retD ds as ++ if d.word = "later" then [] else [a]
  | [], [], d, a, _ => by
    show (if d.word = "later" then retD [] [] else a :: retD [] []) = [] ++ _
    split <;> rfl
  | [], _ :: _, _, _, h => by simp at h
  | _ :: _, [], _, _, h => by simp at h
  | e :: ds, b :: as, d, a, h => by
    have ih := retD_snoc (ds := ds) (as := as) (d := d) (a := a) (by simpa using h)
    show (if e.word = "later" then retD (ds ++ [d]) (as ++ [a]) else b :: retD (ds ++ [d]) (as ++ [a])) = (if e.word = "later" then retD ds as else b :: retD ds as) ++ _
    rw [ih]
    split <;> rfl
theorem retD_len : ∀ (ds : List Deed) (as : List (Option Nat)), (retD ds as).length ≤ ds.length
  | [], _ => Nat.le_refl _
  | _ :: _, [] => Nat.zero_le _
  | d :: ds, a :: as => by
    have h := retD_len ds as
    show (if d.word = "later" then retD ds as else a :: retD ds as).length ≤ ds.length + 1
    split
    · omega
    · rw [List.length_cons]; omega
section
variable {P : Program} {w : World} {K : PySem.W.Frag} {mg : Str → Option Value} {base : Heap} {f : Addr} {fd : FuncData}
def spAsWorks : Sp := fun vs H Q _ => ∃ (hl : Addr) (us : List V) (ds : List Deed), vs = [.ref hl] ∧ H hl = some (.lst us) ∧ DeedsAt H us ds ∧ ds.length ≤ 400 ∧ ∀ L H' us', Same H H' → H L = none → H' L = some (.lst us') → DeedsAt H' us' (asW ds) → Q (.ref L) H'
theorem ok__law_as_works (F : FnP K "_law_as_works" "_law_as_works" s__law_as_works f fd) (T : Txt K mg) : FnOk P w K mg base CX0 1 f fd P__law_as_works spAsWorks := by
  refine okD F sc__law_as_works (fun vs H Q E h => ?_) (fun cdv A outer s H vs Q E hr h => ?_)
  · obtain ⟨_, _, _, rfl, _⟩ := h; rfl
  · obtain ⟨hl, us, ds, rfl, hhl, hds, hlen, q⟩ := h
    have nd := sc__law_as_works.nd
    refine ⟨_, pss_cons (ps_par (i := 1) (j := 2) (by rfl) nd rfl rfl (by decide) rfl rfl (pa_cons (pe_lst (pa_nil)) (pa_cons (pe_int) pa_nil)) (by rfl))
    (pss_cons (ps_for PassesOwn.never rfl (pi_list (pv 0)) (pg_name (i := 3) nd rfl (Or.inl rfl))
      (pss_one (ps_if (pt_cmpR op_eq (pe_ix ix_tup (pv 3) (pe_int) (fun _ _ => rfl)) (pe_str) (nomark _))
        (pss_cons (ps_set (i := 1) nd rfl (Or.inl rfl) (pe_op op_cat (pv 1) (pe_lst (pa_cons (pe_tup (pa_cons (pe_str) (pa_cons (pe_ix ix_tup (pv 3) (pe_int) (fun _ _ => rfl)) (pa_cons (pe_ix ix_tup (pv 3) (pe_int) (fun _ _ => rfl)) pa_nil)))) (pa_cons (pe_tup (pa_cons (pe_str) (pa_cons (pv 2) pa_nil))) pa_nil)))))
        (pss_one (ps_set (i := 2) nd rfl (Or.inl rfl) (pe_op op_add (pv 2) (pe_int)))))
        (pss_one (ps_expr (pe_bm PySem.F.plainAttrs_list PySem.F.slot_list_append PySem.F.type_list_append mt_append (pv 1) (pa_cons (pv 3) pa_nil)))))))
    (pss_one (ps_ret (pv 1)))), ?_⟩
    refine ⟨Nat.zero_le _, fun L0 hL0 => ⟨_, _, rfl, ?_⟩⟩
    have s1 : Same H (upd H L0 (.lst [])) := Same.new hL0
    have h1 : (upd H L0 (.lst [])) L0 = some (.lst []) := upd_same
    generalize upd H L0 (.lst []) = H1 at s1 h1 ⊢
    refine ⟨_, rfl, hl, rfl, ⟨_, SqL.of (s1 _ _ hhl)⟩, for_list (K := K) (a := hl) (xs := us) (fun i σ H' => ∃ (L : Addr) (v3 : Option V) (us' : List V), σ = [some (.ref hl), some (.ref L), some (.int (((ds.take i).foldl asStep ([], 0)).2 : Nat)), v3] ∧ Same H H' ∧ H L = none ∧ H' L = some (.lst us') ∧ DeedsAt H' us' ((ds.take i).foldl asStep ([], 0)).1) ⟨L0, none, [], rfl, s1, hL0, h1, .nil⟩ (fun i σ H' _ ⟨_, _, _, _, s, _⟩ => SqL.of (s _ _ hhl)) ?_ ?_⟩
    · rintro i x σ H' hi ⟨L, v3, us', rfl, sm, nL, hL, hd'⟩
      obtain ⟨d, hd, a, rfl, hda⟩ := Paired.get hds hi
      rw [take_succ (f := asStep) hd]
      have hul : us'.length ≤ 800 := by
        have h2 := asFold_len (ds.take i) ([], 0)
        rw [Paired.length hd']
        rw [List.length_take] at h2
        simp at h2
        omega
      generalize (ds.take i).foldl asStep ([], 0) = q0 at hd' ⊢
      obtain ⟨acc, cnt⟩ := q0
      have ha : H' a = some (.tup d.vs) := sm _ _ hda
      refine ⟨_, rfl, a, d.vs, 0, _, rfl, rfl, SqT.of ha, d.at0, rfl, _, rfl, ?_⟩
      by_cases h : d.word = "use"
      · rw [decide_eq_true (str_iff.mpr h)]
        obtain ⟨r, n, rfl⟩ : ∃ r n, d = .use r n := by
          cases d with
          | use r n => exact ⟨r, n, rfl⟩
          | begin s => exact absurd (show ("begin" : Str) = "use" from h) (by decide)
          | close s => exact absurd (show ("close" : Str) = "use" from h) (by decide)
          | ask r n => exact absurd (show ("ask" : Str) = "use" from h) (by decide)
          | later r n => exact absurd (show ("later" : Str) = "use" from h) (by decide)
          | run k => exact absurd (show ("run" : Str) = "use" from h) (by decide)
        refine iteT ⟨_, rfl, _, rfl, a, _, 1, _, rfl, rfl, SqT.of ha, rfl, _, rfl, a, _, 2, _, rfl, rfl, SqT.of ha, rfl, by show 3 ≤ sizeLine; rw [sizeLine_eq]; decide, fun t1 ht1 => ?_⟩
        have s2 : Same H' (upd H' t1 (.tup [.str "later", .int (r : Nat), .str n])) := Same.new ht1
        have d1 : DeedAt (upd H' t1 (.tup [.str "later", .int (r : Nat), .str n])) t1 (.later r n) := upd_same
        have hL2 := s2 _ _ hL
        generalize upd H' t1 (.tup [.str "later", .int (r : Nat), .str n]) = H2 at s2 d1 hL2 ⊢
        refine ⟨_, rfl, by show 2 ≤ sizeLine; rw [sizeLine_eq]; decide, fun t2 ht2 => ⟨by show 2 ≤ sizeLine; rw [sizeLine_eq]; decide, fun l2 hl2 => ?_⟩⟩
        have s3 : Same H2 (upd H2 t2 (.tup [.str "run", .int (cnt : Nat)])) := Same.new ht2
        have d2 : DeedAt (upd H2 t2 (.tup [.str "run", .int (cnt : Nat)])) t2 (.run cnt) := upd_same
        have hL3 := s3 _ _ hL2
        generalize upd H2 t2 (.tup [.str "run", .int (cnt : Nat)]) = H3 at s3 d2 hL3 hl2 ⊢
        have s4 : Same H3 (upd H3 l2 (.lst [.ref t1, .ref t2])) := Same.new hl2
        have hl4 : (upd H3 l2 (.lst [.ref t1, .ref t2])) l2 = some (.lst [.ref t1, .ref t2]) := upd_same
        have hL4 := s4 _ _ hL3
        generalize upd H3 l2 (.lst [.ref t1, .ref t2]) = H4 at s4 hl4 hL4 ⊢
        refine ⟨_, _, _, _, rfl, rfl, hL4, hl4, by show us'.length + 2 ≤ sizeLine; rw [sizeLine_eq]; omega, fun Ln hLn => ?_⟩
        have s5 : Same H4 (upd H4 Ln (.lst (us' ++ [.ref t1, .ref t2]))) := Same.new hLn
        have nLn := sm.free (((s2.trans s3).trans s4).free hLn)
        have hLn5 : (upd H4 Ln (.lst (us' ++ [.ref t1, .ref t2]))) Ln = some (.lst (us' ++ [.ref t1, .ref t2])) := upd_same
        generalize upd H4 Ln (.lst (us' ++ [.ref t1, .ref t2])) = H5 at s5 hLn5 ⊢
        have s25 := (s2.trans s3).trans (s4.trans s5)
        refine ⟨_, rfl, _, _, rfl, rfl, Ln, _, us' ++ [.ref t1, .ref t2], rfl, sm.trans s25, nLn, hLn5, ?_⟩
        have e2 : us' ++ [V.ref t1, V.ref t2] = (us' ++ [.ref t1]) ++ [.ref t2] := by rw [List.append_assoc]; rfl
        have e3 : (asStep (acc, cnt) (.use r n)).1 = (acc ++ [.later r n]) ++ [.run cnt] := by show acc ++ [_, _] = _; rw [List.append_assoc]; rfl
        rw [e2, e3]
        exact Paired.snoc ⟨t2, rfl, (s4.trans s5) _ _ d2⟩ (Paired.snoc ⟨t1, rfl, ((s3.trans s4).trans s5) _ _ d1⟩ (hd'.mono (Same.tups s25)))
      · rw [decide_eq_false fun z => h (str_iff.mp z)]
        have e3 : asStep (acc, cnt) d = (acc ++ [d], cnt) := by
          cases d with
          | use r n => exact absurd rfl h
          | _ => rfl
        rw [e3]
        have tu : Tups H' (upd H' L (.lst (us' ++ [.ref a]))) := Tups.wr hL True.intro
        exact iteF ⟨_, rfl, .inl ⟨rfl, _, SqL.of hL⟩, _, rfl, L, us', _, rfl, rfl, hL, small1000 (by omega), L, _, us' ++ [.ref a], rfl, fun b o e => by rw [upd_ne (ne_of_none e nL)]; exact sm b o e, nL, upd_same, Paired.snoc ⟨a, rfl, tu _ _ ha⟩ (hd'.mono tu)⟩
    · rintro σ H' ⟨L, v3, us', rfl, sm, nL, hL, hd'⟩
      rw [Paired.length hds, List.take_length] at hd'
      exact ⟨_, rfl, q L H' us' sm nL hL hd'⟩
def spReturned : Sp := fun vs H Q _ => ∃ (hl : Addr) (us : List V) (ds : List Deed) (an : Addr) (as : List (Option Nat)), vs = [.ref hl, .ref an] ∧ H hl = some (.lst us) ∧ DeedsAt H us ds ∧ H an = some (.lst (as.map oV)) ∧ as.length = ds.length ∧ ds.length ≤ 1000 ∧ ∀ L H', Same H H' → H' L = some (.lst ((retD ds as).map oV)) → Q (.ref L) H'
theorem ok__law_returned (F : FnP K "_law_returned" "_law_returned" s__law_returned f fd) (T : Txt K mg) : FnOk P w K mg base CX0 1 f fd P__law_returned spReturned := by
  refine okD F sc__law_returned (fun vs H Q E h => ?_) (fun cdv A outer s H vs Q E hr h => ?_)
  · obtain ⟨_, _, _, _, _, rfl, _⟩ := h; rfl
  · obtain ⟨hl, us, ds, an, as, rfl, hhl, hds, han, hal, hlen, q⟩ := h
    have nd := sc__law_returned.nd
    refine ⟨_, pss_one (ps_ret (pe_lc (own := [("_law_k", 2)]) (g := gName 2) rfl nd (pi_range1 (by rfl) T.f_range (pa_cons (pe_callB call_len_seq (by rfl) T.f_len (by decide +kernel) (pa_cons (pv 0) pa_nil)) pa_nil)) (blkOk_by (N := N__law_returned) (sc := defScope s__law_returned) (own := [("_law_k", 2)]) (by decide +kernel)) (fun _ _ _ _ _ => pg_name (i := 2) nd rfl (Or.inl rfl)) (fun _ _ _ _ _ => pts_one (pt_cmpR op_ne (pe_ix (r := rIxT K) ix_tup (pe_ix (r := rIxL K) ix_list (pv 0) (pv 2) (fun _ _ => rfl)) (pe_int) (fun _ _ => rfl)) (pe_str) (nomark _))) (fun _ _ _ _ _ => pe_ix (r := rIxL K) ix_list (pv 1) (pv 2) (fun _ _ => rfl)))), ?_⟩
    have hul : us.length = ds.length := Paired.length hds
    refine ⟨_, rfl, hl, us, rfl, .inl (SqL.of hhl), _, rfl, by omega, by omega, fun L hL => ?_⟩
    rw [Int.toNat_natCast]
    refine lc_it (walk_range (lo := 0) (n := us.length)) (fun i H' => Same H H' ∧ H' L = some (.lst ((retD (ds.take i) (as.take i)).map oV))) ⟨Same.new hL, upd_same⟩ (fun _ _ _ _ => True.intro) ?_ ?_
    · rintro i x H' H'' hi ⟨h1, h2⟩ ⟨rfl, rfl⟩
      obtain ⟨d, hd, a, hv, hda⟩ := Paired.get hds (List.getElem?_eq_getElem hi)
      have hu : us[i]? = some (.ref a) := by rw [List.getElem?_eq_getElem hi, hv]
      have ha' := List.getElem?_eq_getElem (show i < as.length by omega)
      generalize as[i]'(by omega) = b at ha'
      have e0 : V.int (0 + (i : Int)) = V.int (i : Nat) := by rw [Int.zero_add]
      have hst : retD (ds.take (i + 1)) (as.take (i + 1)) = retD (ds.take i) (as.take i) ++ if d.word = "later" then [] else [b] := by
        rw [List.take_add_one, hd, List.take_add_one, ha']
        exact retD_snoc (by rw [List.length_take, List.length_take, hal])
      have hda2 : H'' a = some (.tup d.vs) := h1 _ _ hda
      refine ⟨rfl, _, rfl, _, rfl, hl, us, _, _, rfl, rfl, SqL.of (h1 _ _ hhl), by rw [Int.zero_add]; exact atI_nat hu, a, d.vs, 0, _, rfl, rfl, SqT.of hda2, d.at0, rfl, _, rfl, ?_⟩
      rw [hst]
      by_cases h : d.word = "later"
      · rw [decide_eq_true (str_iff.mpr h), if_pos h, List.append_nil]
        exact iteF ⟨h1, h2⟩
      · rw [decide_eq_false fun z => h (str_iff.mp z), if_neg h]
        have hal2 : atI (as.map oV) ((0 : Int) + (i : Nat)) = some (oV b) := by rw [Int.zero_add]; exact atI_nat (by rw [List.getElem?_map, ha']; rfl)
        refine iteT ⟨_, rfl, _, rfl, an, as.map oV, _, _, rfl, rfl, SqL.of (h1 _ _ han), hal2, _, h2, ?_, fun b o e => ?_, ?_⟩
        · rw [List.length_map]
          have := retD_len (ds.take i) (as.take i)
          rw [List.length_take] at this
          exact small1000 (by omega)
        · rw [upd_ne (ne_of_none e hL)]
          exact h1 b o e
        · rw [upd_same, List.map_append]
          rfl
    · rintro H' ⟨h1, h2⟩
      rw [hul, List.take_length, List.take_of_length_le (by omega)] at h2
      exact q L H' h1 h2
end
end K94
set_option maxHeartbeats 4000000
/-! what a deed costs -/
namespace K94
open PySem PySem.Spec PyProof.Rows L2 StX
structure Cost (c : Nat) (S S' : Cor) : Prop where
  th : S'.things.length ≤ S.things.length + c
  sz : sz S' ≤ sz S + c
  le : S'.left = S.left
theorem Cost.refl (S : Cor) : Cost 0 S S := ⟨Nat.le_refl _, Nat.le_refl _, rfl⟩
theorem Cost.trans {a b : Nat} {S S1 S2 : Cor} (x : Cost a S S1) (y : Cost b S1 S2) : Cost (a + b) S S2 := ⟨by have := x.th; have := y.th; omega, by have := x.sz; have := y.sz; omega, y.le.trans x.le⟩
theorem Cost.up {a b : Nat} {S S1 : Cor} (x : Cost a S S1) (h : a ≤ b) : Cost b S S1 := ⟨by have := x.th; omega, by have := x.sz; omega, x.le⟩
theorem cost_fault (S : Cor) (w : Str) (n : Nat) (p : List Str) : Cost 1 S (S.fault w n p) := ⟨Nat.le_succ _, by unfold K94.sz Cor.fault; simp <;> omega, rfl⟩
theorem cost_addT (S : Cor) (t : Thg) : Cost 1 S (S.addT t) := ⟨by unfold Cor.addT; simp, by unfold K94.sz Cor.addT; simp <;> omega, rfl⟩
theorem cost_addK (S : Cor) (n : Str) (pl k : Nat) : Cost 1 S (S.addK n pl k) := ⟨Nat.le_succ _, by
  have h : (kput S.kept n pl k).length ≤ S.kept.length + 1 := by
    unfold kput
    split
    · rw [List.length_map]; omega
    · rw [List.length_append]; simp
  show S.things.length + (kput S.kept n pl k).length + S.faults.length + S.loose.length + S.left.length ≤ _
  unfold K94.sz
  omega, rfl⟩
theorem cost_addGot (S : Cor) (k : Nat) (o : Option Nat) : Cost 0 S (S.addGot k o) := by
  unfold Cor.addGot
  split
  · exact ⟨by unfold Cor.setT; simp, by unfold K94.sz Cor.setT; simp, rfl⟩
  · exact Cost.refl S
theorem cost_addL (S : Cor) (k : Nat) : Cost 1 S (S.addL k) := ⟨Nat.le_succ _, by unfold K94.sz Cor.addL; simp <;> omega, rfl⟩
def cst : Nat → Nat
  | 0 => 2
  | r + 1 => 2 + (r + 1) * (cst r + 1)
theorem cst_le : ∀ {a b : Nat}, a ≤ b → cst a ≤ cst b := fun {a b} h => by
  induction h with
  | refl => exact Nat.le_refl _
  | @step m h ih =>
    refine Nat.le_trans ih ?_
    show cst m ≤ 2 + (m + 1) * (cst m + 1)
    have : cst m + 1 ≤ (m + 1) * (cst m + 1) := Nat.le_mul_of_pos_left _ (by omega)
    omega
theorem miss_cost (S : Cor) (k : Nat) (p : List Str) (o : Option Nat) : Cost 1 S (miss S k p o) := by
  cases o with
  | none => exact cost_fault _ _ _ _
  | some _ => exact (Cost.refl S).up (by omega)
theorem foldl_cost {α : Type} {f : Cor → α → Cor} {c : Nat} : ∀ (l : List α) (S : Cor), (∀ S a, a ∈ l → Cost c S (f S a)) → Cost (l.length * c) S (l.foldl f S)
  | [], S, _ => by rw [List.length_nil, Nat.zero_mul]; exact Cost.refl S
  | a :: l, S, h => by
    have h1 := h S a List.mem_cons_self
    have h2 := foldl_cost l (f S a) fun S b hb => h S b (List.mem_cons_of_mem _ hb)
    refine (h1.trans h2).up ?_
    rw [List.length_cons, Nat.add_mul]
    omega
theorem get_cost {g : Gam} (mok : g.M.Ok) : ∀ (f : Nat) (S : Cor) (n : Str) (s req : Nat) (p : List Str), Cost (cst (g.M.rk n)) S (getF g f S n s req p).1
  | 0, S, _, _, _, _ => (Cost.refl S).up (Nat.zero_le _)
  | f + 1, S, n, s, req, p => by
    have mk : ∀ (home : Nat), Cost (1 + g.M.rk n * (cst (g.M.rk n - 1) + 1)) S (makeG g (getF g f) S n home req p) := fun home => by
      unfold makeG
      refine (cost_addT S ⟨n, home, [], false⟩).trans ?_
      cases hg : g.M.get n with
      | none =>
        have hw : g.M.wants n = [] := by unfold PM.wants; rw [hg]
        rw [hw]
        exact (Cost.refl _).up (Nat.zero_le _)
      | some pr =>
        rw [wants_of hg]
        refine (foldl_cost (c := cst (g.M.rk n - 1) + 1) pr.wants _ fun S' w hw => ?_).up (Nat.mul_le_mul_right _ (mok.few n pr hg))
        have hd := mok.down n pr hg w hw
        unfold makeStep
        split
        · refine ((((get_cost mok f S' w.2 _ _ _).up (cst_le (show g.M.rk w.2 ≤ g.M.rk n - 1 by omega))).trans (miss_cost _ _ _ _)).trans (cost_addGot _ _ _)).up (by omega)
        · exact (Cost.refl _).up (Nat.zero_le _)
    have hb : 2 + g.M.rk n * (cst (g.M.rk n - 1) + 1) ≤ cst (g.M.rk n) := by
      cases g.M.rk n with
      | zero => show 2 + 0 * _ ≤ 2; omega
      | succ r => exact Nat.le_refl _
    rw [getF_succ]
    split
    · exact (mk s).up (by omega)
    · cases placeOf g S.scopes n s with
      | none => exact (Cost.refl S).up (Nat.zero_le _)
      | some pl =>
        show Cost _ S (match kget S.kept n pl with | some k => (S, some k) | none => _ : Cor × Option Nat).1
        cases kget S.kept n pl with
        | some k => exact (Cost.refl S).up (Nat.zero_le _)
        | none => exact ((mk pl).trans (cost_addK _ _ _ _)).up (by omega)
theorem loose_cost (g : Gam) (S : Cor) (o : Option Nat) : Cost 1 S (letLoose g S o) := by
  cases o with
  | none => exact (Cost.refl S).up (by omega)
  | some k =>
    show Cost 1 S (if _ then _ else _)
    split
    · exact cost_addL _ _
    · exact (Cost.refl S).up (by omega)
def ucs : Nat → Nat
  | 0 => 2
  | r + 1 => 2 + (r + 1) * (cst r + 2 + ucs r)
theorem ucs_le : ∀ {a b : Nat}, a ≤ b → ucs a ≤ ucs b := fun {a b} h => by
  induction h with
  | refl => exact Nat.le_refl _
  | @step m h ih =>
    refine Nat.le_trans ih ?_
    show ucs m ≤ 2 + (m + 1) * (cst m + 2 + ucs m)
    have : cst m + 2 + ucs m ≤ (m + 1) * (cst m + 2 + ucs m) := Nat.le_mul_of_pos_left _ (by omega)
    omega
theorem head_cost (g : Gam) (S : Cor) (k req : Nat) (p : List Str) (t : Thg) : Cost 2 S (useHead g S k req p t) := by
  have h1 : Cost 1 S (if t.ended = true then S.fault "ended" k p else S) := by
    split
    · exact cost_fault _ _ _ _
    · exact (Cost.refl S).up (by omega)
  unfold useHead
  show Cost 2 S (if _ then _ else _)
  split
  · exact h1.trans (cost_fault _ _ _ _)
  · exact h1.up (by omega)
end K94
set_option maxHeartbeats 4000000
/-! what a use costs; histories stay small -/
namespace K94
open PySem PySem.Spec PyProof.Rows L2 StX
theorem usefold_cost {g : Gam} (mok : g.M.Ok) {use : Cor → Nat → List Str → Cor} {ρ : Nat} (hwf : ∀ S j p, WF g S → WF g (use S j p)) (hgr : ∀ S j p, GrowL S (use S j p))
    (hc : ∀ S j p t, WF g S → S.things[j]? = some t → g.M.rk t.name < ρ → Cost (ucs (ρ - 1)) S (use S j p)) (k src req : Nat) (p : List Str) :
    ∀ (l : List (Bool × Str)) (q : Cor × List (Option Nat)), (∀ w ∈ l, (g.M.get w.2).isSome = true ∧ g.M.rk w.2 < ρ) → WF g q.1 → Paired (GotOk q.1.things) q.2 (l.filter (·.1)) → Cost (l.length * (cst (ρ - 1) + 2 + ucs (ρ - 1))) q.1 (l.foldl (useStep g use k src req p) q).1
  | [], q, _, _, _ => by rw [List.length_nil, Nat.zero_mul]; exact Cost.refl _
  | w :: l, (S, rest), hl, wf, hp => by
    have hw := hl w List.mem_cons_self
    have hl' := fun x hx => hl x (List.mem_cons_of_mem w hx)
    have key : ∀ (S' : Cor) (rest' : List (Option Nat)), useStep g use k src req p (S, rest) w = (S', rest') → Cost (cst (ρ - 1) + 2 + ucs (ρ - 1)) S S' → WF g S' → Paired (GotOk S'.things) rest' (l.filter (·.1)) →
        Cost ((w :: l).length * (cst (ρ - 1) + 2 + ucs (ρ - 1))) S ((w :: l).foldl (useStep g use k src req p) (S, rest)).1 := fun S' rest' e c1 w1 p1 => by
      rw [List.foldl_cons, e]
      refine (c1.trans (usefold_cost mok hwf hgr hc k src req p l (S', rest') hl' w1 p1)).up ?_
      rw [List.length_cons, Nat.add_mul]
      omega
    cases h : w.1 with
    | true =>
      have hf : (w :: l).filter (·.1) = w :: l.filter (·.1) := by rw [List.filter_cons, h]; rfl
      rw [hf] at hp
      cases hp with
      | @cons o _ rest _ hgo ht =>
        have e := step_held (g := g) (use := use) (k := k) (src := src) (req := req) (p := p) (S := S) (l := o :: rest) h
        cases o with
        | none => exact key S rest e ((Cost.refl S).up (Nat.zero_le _)) wf ht
        | some j =>
          obtain ⟨t, et, en⟩ := hgo j rfl
          refine key _ rest e ((hc S j _ t wf et (by rw [en]; exact hw.2)).up (by omega)) (hwf _ _ _ wf) (Paired.mono (fun _ _ z => z.mono (hgr _ _ _).nm) ht)
    | false =>
      have hf : (w :: l).filter (·.1) = l.filter (·.1) := by rw [List.filter_cons, h]; rfl
      rw [hf] at hp
      rcases ew : wantedG (getF g TOP) S k w.2 src req p with ⟨S1, o⟩
      have e := step_each (g := g) (use := use) (k := k) (src := src) (req := req) (p := p) (S := S) (l := rest) h ew
      have c1 : Cost (cst (ρ - 1) + 1) S S1 := by
        have c0 := ((get_cost mok TOP S w.2 src req (p ++ [w.2])).up (cst_le (show g.M.rk w.2 ≤ ρ - 1 by omega))).trans (miss_cost _ k (p ++ [w.2]) (getF g TOP S w.2 src req (p ++ [w.2])).2)
        have e1 : (wantedG (getF g TOP) S k w.2 src req p).1 = S1 := by rw [ew]
        rw [← e1]
        exact c0
      have w1 := wanted_wf mok TOP (k := k) (s := src) (req := req) (p := p) hw.1 wf
      have gr1 := wanted_grow (get_grow g TOP) S k w.2 src req p
      rw [ew] at w1 gr1
      have w2 := letLoose_wf w1.2 w1.1
      have gr2 := grow_letLoose g S1 o
      have c2 : Cost (cst (ρ - 1) + 2) S (letLoose g S1 o) := c1.trans (loose_cost g S1 o)
      have hp2 := Paired.mono (fun _ _ z => GotOk.mono (gr1.nm.trans gr2.nm) z) hp
      cases o with
      | none => exact key _ rest e (c2.up (by omega)) w2 hp2
      | some j =>
        obtain ⟨t, et, en⟩ := w1.2 j rfl
        have et2 := gr2.get et
        exact key _ rest e (c2.trans (hc _ j _ t w2 et2 (by rw [en]; exact hw.2))) (hwf _ _ _ w2) (Paired.mono (fun _ _ z => GotOk.mono (hgr _ _ _).nm z) hp2)
theorem use_cost {g : Gam} (mok : g.M.Ok) : ∀ (f : Nat) (S : Cor) (k req : Nat) (p : List Str) (t : Thg), WF g S → S.things[k]? = some t → Cost (ucs (g.M.rk t.name)) S (useF g f S k req p)
  | 0, S, _, _, _, _, _, _ => (Cost.refl S).up (Nat.zero_le _)
  | f + 1, S, k, req, p, t, wf, et => by
    rw [useF_succ g f et]
    have cm := wf.th et
    obtain ⟨pr, hpr⟩ := some_of cm.nm
    have hh := head_cost g S k req p t
    have hw := head_wf (k := k) (req := req) (p := p) (t := t) wf
    have hg := grow_head g S k req p t
    have hgot := Paired.mono (fun _ _ z => GotOk.mono hg.nm z) cm.got
    unfold heldW at hgot
    rw [wants_of hpr] at hgot ⊢
    have h := usefold_cost mok (ρ := g.M.rk t.name) (use := fun S j p => useF g f S j req p) (fun S j p w => use_wf mok f w) (fun S j p => grow_use g f S j req p) (fun S j p t' w e hr => (use_cost mok f S j req p t' w e).up (ucs_le (by omega))) k (if g.bk.each = "now" then req else 0) req p pr.wants (useHead g S k req p t, t.got) (fun w hw => mok.down t.name pr hpr w hw) hw hgot
    refine (hh.trans h).up ?_
    have hfew := mok.few t.name pr hpr
    cases hr : g.M.rk t.name with
    | zero =>
      rw [hr] at hfew
      have : pr.wants.length = 0 := by omega
      rw [this, Nat.zero_mul]
      exact Nat.le_refl _
    | succ r =>
      rw [hr] at hfew
      show 2 + pr.wants.length * (cst r + 2 + ucs r) ≤ 2 + (r + 1) * (cst r + 2 + ucs r)
      have := Nat.mul_le_mul_right (cst r + 2 + ucs r) hfew
      omega
/-- small: behind deeds that cost N in all -/
structure Bnd (N : Nat) (S : Cor) : Prop where
  nd : S.left.Nodup
  lt : ∀ k ∈ S.left, k < S.things.length
  th : S.things.length ≤ N
  sz : sz S ≤ N + 2 * S.left.length
theorem Bnd.szle {N : Nat} {S : Cor} (h : Bnd N S) : K94.sz S ≤ 3 * N := by
  have h1 := few_below S.things.length S.left h.nd h.lt
  have := h.th
  have := h.sz
  omega
theorem Bnd.cost {N c : Nat} {S S' : Cor} (h : Bnd N S) (x : Cost c S S') (hm : S.things.length ≤ S'.things.length) : Bnd (N + c) S' := by
  refine ⟨by rw [x.le]; exact h.nd, fun k hk => ?_, ?_, ?_⟩
  · rw [x.le] at hk
    exact Nat.lt_of_lt_of_le (h.lt k hk) hm
  · have := x.th; have := h.th; omega
  · rw [x.le]
    have := x.sz
    have := h.sz
    omega
theorem leftStep_bnd {g : Gam} {N : Nat} {T : List Thg} {S : Cor} (hT : S.things = T) (h : Bnd N S) (k : Nat) : Bnd N (leftStep g T S k) ∧ (leftStep g T S k).things = T := by
  have ht := leftStep_things g T S k
  refine ⟨?_, ht.1.trans hT⟩
  cases e : T[k]? with
  | none =>
    have : leftStep g T S k = S := by unfold leftStep; rw [e]
    rw [this]
    exact h
  | some t =>
    by_cases q : (g.M.life t.name = -1 ∧ t.ended = false) ∧ ¬ Att g T k ∧ k ∉ S.left
    · rw [leftStep_yes e q]
      refine ⟨?_, fun j hj => ?_, h.th, ?_⟩
      · show (S.left ++ [k]).Nodup
        refine List.nodup_append.mpr ⟨h.nd, nd1 k, fun a ha b hb z => q.2.2 (by rw [List.mem_singleton.mp hb] at z; rw [← z]; exact ha)⟩
      · have hj : j ∈ S.left ++ [k] := hj
        show j < S.things.length
        rcases List.mem_append.mp hj with z | z
        · exact h.lt j z
        · rw [List.mem_singleton.mp z, hT]
          exact (List.getElem?_eq_some_iff.mp e).1
      · have := h.sz
        show S.things.length + S.kept.length + (S.faults ++ [_]).length + S.loose.length + (S.left ++ [k]).length ≤ N + 2 * (S.left ++ [k]).length
        unfold K94.sz at this
        rw [List.length_append, List.length_append, List.length_singleton, List.length_singleton]
        omega
    · rw [leftStep_no e q]
      exact h
theorem fin_bnd {g : Gam} {N : Nat} {S : Cor} {b : Bool} (h : Bnd N S) : Bnd N (finF g S b) := by
  have e0 := finS0_le g S
  have h1 : Bnd N (finS1 g S) := by
    have e1 : (finS1 g S).left = S.left := e0.le
    have e2 : (finS1 g S).things.length = S.things.length := e0.len
    refine ⟨by rw [e1]; exact h.nd, fun k hk => by rw [e1] at hk; rw [e2]; exact h.lt k hk, by rw [e2]; exact h.th, ?_⟩
    rw [e1]
    have h2 : K94.sz (finS1 g S) ≤ K94.sz (if g.bk.ends = "holder" then S.loose.foldl (endF g TOP) S else S) := by
      unfold finS1 K94.sz
      simp
    rw [e0.sz] at h2
    have := h.sz
    omega
  rw [finF_eq]
  split
  · have hf : ∀ (l : List Nat) (S' : Cor), S'.things = (finS1 g S).things → Bnd N S' → Bnd N (l.foldl (leftStep g (finS1 g S).things) S') := fun l => by
      induction l with
      | nil => intro S' _ h; exact h
      | cons a l ih =>
        intro S' hT hb
        obtain ⟨h2, h3⟩ := leftStep_bnd (g := g) hT hb a
        exact ih _ h3 h2
    exact hf _ _ rfl h1
  · exact h1
theorem end_cost {S S' : Cor} (h : EndLe S S') : Cost 0 S S' := ⟨by rw [h.len]; exact Nat.le_refl _, by rw [h.sz]; exact Nat.le_refl _, h.le⟩
def DC : Nat := 5900
theorem pre_cost {g : Gam} (mok : g.M.Ok) {q : CW} {d : Deed} (wf : WF g q.1) (h : Legal g q d) : Cost DC q.1 (preD g q d).1.1 ∧ q.1.things.length ≤ (preD g q d).1.1.things.length ∧ (preD g q d).1.1.scopes.length ≤ q.1.scopes.length + 1 := by
  have hc5 : ∀ n, cst (g.M.rk n) ≤ 977 := fun n => Nat.le_trans (cst_le (mok.rk5 n)) (by decide)
  have hu5 : ∀ n, ucs (g.M.rk n) ≤ 4892 := fun n => Nat.le_trans (ucs_le (mok.rk5 n)) (by decide)
  have run : ∀ {S : Cor} {r : Nat} {n : Str} {k : Nat}, WF g S → Is S (some k) n → Cost 4893 S (runU g S r n (some k)) ∧ GrowL S (runU g S r n (some k)) := fun {S r n k} wf is => by
    obtain ⟨t, et, _⟩ := is k rfl
    have g1 := grow_letLoose g S (some k)
    have c1 := loose_cost g S (some k)
    have c2 := use_cost mok TOP (letLoose g S (some k)) k r [n] t (letLoose_wf is wf) (g1.get et)
    exact ⟨(c1.trans c2).up (by have := hu5 t.name; omega), g1.trans (grow_use g TOP _ k r [n])⟩
  cases d with
  | begin s => exact ⟨(Cost.refl q.1).up (Nat.zero_le _) |> fun c => ⟨c.th, c.sz, c.le⟩, Nat.le_refl _, by show (q.1.scopes ++ _).length ≤ _; rw [List.length_append]; exact Nat.le_refl _⟩
  | close s =>
    have e1 := shut_le g q.1 s
    have e2 : Cost 0 q.1 (q.1.close s) := by unfold Cor.close; split <;> exact ⟨Nat.le_refl _, Nat.le_refl _, rfl⟩
    have e3 : (q.1.close s).scopes.length = q.1.scopes.length := by
      unfold Cor.close
      split
      · show (q.1.scopes.set _ _).length = _; rw [List.length_set]
      · rfl
    refine ⟨(e2.trans (end_cost e1)).up (Nat.zero_le _), ?_, ?_⟩
    · show _ ≤ (shutF g q.1 s).things.length
      rw [e1.len, close_things]
      exact Nat.le_refl _
    · show (shutF g q.1 s).scopes.length ≤ _
      rw [e1.sc, e3]
      omega
  | ask r n =>
    have c1 := get_cost mok TOP q.1 n r r [n]
    have g1 := get_grow g TOP q.1 n r r [n]
    have c2 := loose_cost g (getT g q.1 r n).1 (getT g q.1 r n).2
    have g2 := grow_letLoose g (getT g q.1 r n).1 (getT g q.1 r n).2
    have gg := g1.l.trans g2
    exact ⟨(c1.trans c2).up (by have := hc5 n; unfold DC; omega), gg.len, by rw [show (preD g q (.ask r n)).1.1.scopes = q.1.scopes from gg.sc]; omega⟩
  | use r n =>
    obtain ⟨_, x, e, ha, hl, hn⟩ := h
    obtain ⟨w1, i1⟩ := get_wf mok TOP (s := r) (req := r) (p := [n]) hn wf
    have c1 := get_cost mok TOP q.1 n r r [n]
    have g1 := get_grow g TOP q.1 n r r [n]
    obtain ⟨k, hk⟩ := get_some mok e hl hn
    have hk2 : (getF g TOP q.1 n r r [n]).2 = some k := hk
    rw [hk2] at i1
    obtain ⟨c2, g2⟩ := run (r := r) w1 i1
    have e1 : (preD g q (.use r n)).1.1 = runU g (getF g TOP q.1 n r r [n]).1 r n (some k) := by show runU g _ r n (getT g q.1 r n).2 = _; rw [hk]; rfl
    rw [e1]
    have gg := g1.l.trans g2
    exact ⟨(c1.trans c2).up (by have := hc5 n; unfold DC; omega), gg.len, by rw [gg.sc]; omega⟩
  | later r n =>
    have c1 := get_cost mok TOP q.1 n r r [n]
    have g1 := get_grow g TOP q.1 n r r [n]
    exact ⟨c1.up (by have := hc5 n; unfold DC; omega), g1.len, by rw [show (preD g q (.later r n)).1.1.scopes = q.1.scopes from g1.sc]; omega⟩
  | run w =>
    obtain ⟨r, n, k, t, e, _, et, hn⟩ := h
    have e1 : (preD g q (.run w)).1.1 = runU g q.1 r n (some k) := by unfold preD; rw [e]
    rw [e1]
    obtain ⟨c2, g2⟩ := run (r := r) (n := n) wf (fun j hj => by cases hj; exact ⟨t, et, hn⟩)
    exact ⟨c2.up (by unfold DC; omega), g2.len, by rw [g2.sc]; omega⟩
theorem fin_sc (g : Gam) (S : Cor) (b : Bool) : (finF g S b).scopes = S.scopes := by
  have e0 := finS0_le g S
  rw [finF_eq]
  split
  · rw [(leftFold g _ _ _).sc]; exact e0.sc
  · exact e0.sc
def LegalH (g : Gam) : CW → List Deed → Prop
  | _, [] => True
  | q, d :: ds => Legal g q d ∧ LegalH g (stepD g q d).1 ds
/-- histories of legal deeds are never refused, and stay small -/
theorem hist_of {g : Gam} (mok : g.M.Ok) : ∀ (ds : List Deed) (q : CW) (N : Nat), LegalH g q ds → WF g q.1 → Bnd N q.1 → 3 * (N + ds.length * DC) ≤ BIG → q.1.scopes.length + ds.length < 1000 → Hist g q ds
  | [], _, _, _, _, _, _, _ => True.intro
  | d :: ds, q, N, hl, wf, hb, hz, hs => by
    obtain ⟨h1, h2⟩ := hl
    obtain ⟨c1, c2, c3⟩ := pre_cost mok wf h1
    have b1 := hb.cost c1 c2
    have b2 : Bnd (N + DC) (stepD g q d).1.1 := fin_bnd b1
    have hsc : (stepD g q d).1.1.scopes.length ≤ q.1.scopes.length + 1 := by show (finF g _ _).scopes.length ≤ _; rw [fin_sc]; exact c3
    rw [List.length_cons] at hz hs
    have hz2 : 3 * (N + DC + ds.length * DC) ≤ BIG := by rw [Nat.add_mul] at hz; omega
    refine ⟨h1, by omega, ?_, ?_, hist_of mok ds _ (N + DC) h2 (stepD_wf mok wf h1) b2 hz2 (by omega)⟩
    · have := b1.szle; omega
    · have := b2.szle; omega
theorem Bnd.zero : Bnd 0 Cor.zero := ⟨List.nodup_nil, (fun _ h => nomatch h), Nat.le_refl _, Nat.le_refl _⟩
end K94
set_option maxHeartbeats 4000000
/-! a use is a work put off and run at once -/
namespace K94
open PySem PySem.Spec PyProof.Rows L2 StX
def asL : Nat → List Deed → List Deed
  | _, [] => []
  | c, .use r n :: ds => .later r n :: .run c :: asL (c + 1) ds
  | c, d :: ds => d :: asL c ds
theorem asFold_eq : ∀ (ds : List Deed) (acc : List Deed) (c : Nat), (ds.foldl asStep (acc, c)).1 = acc ++ asL c ds
  | [], acc, c => by rw [List.foldl_nil]; show acc = acc ++ []; rw [List.append_nil]
  | d :: ds, acc, c => by
    rw [List.foldl_cons]
    cases d with
    | use r n =>
      show (ds.foldl asStep (acc ++ [.later r n, .run c], c + 1)).1 = acc ++ (.later r n :: .run c :: asL (c + 1) ds)
      rw [asFold_eq ds, List.append_assoc]
      rfl
    | begin s => show (ds.foldl asStep (acc ++ [.begin s], c)).1 = acc ++ (.begin s :: asL c ds); rw [asFold_eq ds, List.append_assoc]; rfl
    | close s => show (ds.foldl asStep (acc ++ [.close s], c)).1 = acc ++ (.close s :: asL c ds); rw [asFold_eq ds, List.append_assoc]; rfl
    | ask r n => show (ds.foldl asStep (acc ++ [.ask r n], c)).1 = acc ++ (.ask r n :: asL c ds); rw [asFold_eq ds, List.append_assoc]; rfl
    | later r n => show (ds.foldl asStep (acc ++ [.later r n], c)).1 = acc ++ (.later r n :: asL c ds); rw [asFold_eq ds, List.append_assoc]; rfl
    | run k => show (ds.foldl asStep (acc ++ [.run k], c)).1 = acc ++ (.run k :: asL c ds); rw [asFold_eq ds, List.append_assoc]; rfl
theorem asW_eq (ds : List Deed) : asW ds = asL 0 ds := by unfold asW; rw [asFold_eq]; rfl
theorem asL_len : ∀ (ds : List Deed) (c : Nat), (asL c ds).length ≤ 2 * ds.length
  | [], _ => Nat.le_refl _
  | d :: ds, c => by
    rw [List.length_cons]
    cases d with
    | use r n => show (asL (c + 1) ds).length + 1 + 1 ≤ _; have := asL_len ds (c + 1); omega
    | begin s => show (asL c ds).length + 1 ≤ _; have := asL_len ds c; omega
    | close s => show (asL c ds).length + 1 ≤ _; have := asL_len ds c; omega
    | ask r n => show (asL c ds).length + 1 ≤ _; have := asL_len ds c; omega
    | later r n => show (asL c ds).length + 1 ≤ _; have := asL_len ds c; omega
    | run k => show (asL c ds).length + 1 ≤ _; have := asL_len ds c; omega
/-- no works -/
def Plain : Deed → Prop
  | .later _ _ => False
  | .run _ => False
  | _ => True
theorem fin_loose (g : Gam) (S : Cor) (b : Bool) : (finF g S b).loose = [] := by
  rw [finF_eq]
  split
  · rw [(leftFold g _ _ _).lo]; rfl
  · rfl
theorem fin_none {g : Gam} {S : Cor} (h : S.loose = []) : finF g S false = S := by
  rw [finF_eq, if_neg (fun z => by cases z.2)]
  unfold finS1
  rw [h, List.foldl_nil]
  split <;> (obtain ⟨a, b, c, d, e, f⟩ := S; have h : d = [] := h; subst h; rfl)
theorem law_as {g : Gam} (mok : g.M.Ok) : ∀ (ds : List Deed) (S : Cor) (c : Nat), WF g S → S.loose = [] → (∀ d ∈ ds, Plain d) → LegalH g (S, ⟨0, []⟩) ds →
    LegalH g (S, ⟨c, []⟩) (asL c ds) ∧ (endD g (S, ⟨c, []⟩) (asL c ds)).1 = (endD g (S, ⟨0, []⟩) ds).1 ∧ (endD g (S, ⟨c, []⟩) (asL c ds)).2.ws = [] ∧ retD (asL c ds) (ansD g (S, ⟨c, []⟩) (asL c ds)) = ansD g (S, ⟨0, []⟩) ds
  | [], S, c, _, _, _, _ => ⟨True.intro, rfl, rfl, rfl⟩
  | d :: ds, S, c, wf, hlo, hpl, hl => by
    obtain ⟨h1, h2⟩ := hl
    have hp := hpl d List.mem_cons_self
    have hpl' := fun x hx => hpl x (List.mem_cons_of_mem d hx)
    have w1 : WF g (stepD g (S, ⟨0, []⟩) d).1.1 := stepD_wf mok wf h1
    have l1 : (stepD g (S, ⟨0, []⟩) d).1.1.loose = [] := fin_loose _ _ _
    have same : ∀ (S' : Cor) (a : Option Nat), asL c (d :: ds) = d :: asL c ds → d.word ≠ "later" → stepD g (S, ⟨0, []⟩) d = ((S', ⟨0, []⟩), a) → stepD g (S, ⟨c, []⟩) d = ((S', ⟨c, []⟩), a) → Legal g (S, ⟨c, []⟩) d →
        LegalH g (S, ⟨c, []⟩) (asL c (d :: ds)) ∧ (endD g (S, ⟨c, []⟩) (asL c (d :: ds))).1 = (endD g (S, ⟨0, []⟩) (d :: ds)).1 ∧ (endD g (S, ⟨c, []⟩) (asL c (d :: ds))).2.ws = [] ∧ retD (asL c (d :: ds)) (ansD g (S, ⟨c, []⟩) (asL c (d :: ds))) = ansD g (S, ⟨0, []⟩) (d :: ds) := fun S' a e0 hw e1 e2 hleg => by
      rw [e1] at h2 w1 l1
      obtain ⟨i1, i2, i3, i4⟩ := law_as mok ds S' c w1 l1 hpl' h2
      rw [e0]
      refine ⟨⟨hleg, by rw [e2]; exact i1⟩, ?_, ?_, ?_⟩
      · show (endD g (stepD g (S, ⟨c, []⟩) d).1 (asL c ds)).1 = (endD g (stepD g (S, ⟨0, []⟩) d).1 ds).1
        rw [e1, e2]
        exact i2
      · show (endD g (stepD g (S, ⟨c, []⟩) d).1 (asL c ds)).2.ws = []
        rw [e2]
        exact i3
      · show (if d.word = "later" then _ else (stepD g (S, ⟨c, []⟩) d).2 :: retD (asL c ds) (ansD g (stepD g (S, ⟨c, []⟩) d).1 (asL c ds))) = (stepD g (S, ⟨0, []⟩) d).2 :: ansD g (stepD g (S, ⟨0, []⟩) d).1 ds
        rw [if_neg hw, e1, e2]
        exact congrArg _ i4
    cases d with
    | begin s => exact same _ _ rfl (by show ("begin" : Str) ≠ "later"; decide) rfl rfl h1
    | close s => exact same _ _ rfl (by show ("close" : Str) ≠ "later"; decide) rfl rfl h1
    | ask r n => exact same _ _ rfl (by show ("ask" : Str) ≠ "later"; decide) rfl rfl h1
    | later r n => exact hp.elim
    | run k => exact hp.elim
    | use r n =>
      obtain ⟨hws, x, ex, hxa, hxl, hn⟩ := id h1
      obtain ⟨k, hk⟩ := get_some mok ex hxl hn
      obtain ⟨wg, ig⟩ := get_wf mok TOP (s := r) (req := r) (p := [n]) hn wf
      have gg := get_grow g TOP S n r r [n]
      have hgt : getF g TOP S n r r [n] = getT g S r n := rfl
      rw [hgt] at wg ig gg
      generalize hz : getT g S r n = z at hk wg ig gg
      obtain ⟨S1, o⟩ := z
      have hk : o = some k := hk
      subst hk
      have e0 : stepD g (S, ⟨0, []⟩) (.use r n) = ((finF g (runU g S1 r n (some k)) true, ⟨0, []⟩), some k) := by
        show (((finF g (runU g (getT g S r n).1 r n (getT g S r n).2) true, _) : CW), (getT g S r n).2) = _
        rw [hz]
        rfl
      have lo1 : S1.loose = [] := gg.lo.trans hlo
      have e1 : stepD g (S, ⟨c, []⟩) (.later r n) = ((S1, ⟨c + 1, [(c, r, n, k)]⟩), some c) := by
        show (((finF g (getT g S r n).1 false, ⟨c + 1, [(c, r, n, (getT g S r n).2.getD 0)]⟩) : CW), some c) = _
        rw [hz]
        show (((finF g S1 false, ⟨c + 1, [(c, r, n, k)]⟩) : CW), some c) = _
        rw [fin_none lo1]
      have e2 : stepD g (S1, ⟨c + 1, [(c, r, n, k)]⟩) (.run c) = ((finF g (runU g S1 r n (some k)) true, ⟨c + 1, []⟩), some k) := rfl
      rw [e0] at h2 w1 l1
      obtain ⟨i1, i2, i3, i4⟩ := law_as mok ds _ (c + 1) w1 l1 hpl' h2
      obtain ⟨t, et, en⟩ := ig k rfl
      have hrun : Legal g (S1, ⟨c + 1, [(c, r, n, k)]⟩) (.run c) := ⟨r, n, k, t, rfl, ⟨x, by show S1.scopes[r]? = _; rw [gg.sc]; exact ex, hxa⟩, et, en⟩
      refine ⟨⟨⟨rfl, x, ex, hxa, hxl, hn⟩, by rw [e1]; exact ⟨hrun, by rw [e2]; exact i1⟩⟩, ?_, ?_, ?_⟩
      · show (endD g (stepD g (stepD g (S, ⟨c, []⟩) (.later r n)).1 (.run c)).1 (asL (c + 1) ds)).1 = (endD g (stepD g (S, ⟨0, []⟩) (.use r n)).1 ds).1
        rw [e1, e0]
        dsimp only
        rw [e2]
        exact i2
      · show (endD g (stepD g (stepD g (S, ⟨c, []⟩) (.later r n)).1 (.run c)).1 (asL (c + 1) ds)).2.ws = []
        rw [e1]
        dsimp only
        rw [e2]
        exact i3
      · show retD (.run c :: asL (c + 1) ds) ((stepD g (stepD g (S, ⟨c, []⟩) (.later r n)).1 (.run c)).2 :: ansD g (stepD g (stepD g (S, ⟨c, []⟩) (.later r n)).1 (.run c)).1 (asL (c + 1) ds)) = (stepD g (S, ⟨0, []⟩) (.use r n)).2 :: ansD g (stepD g (S, ⟨0, []⟩) (.use r n)).1 ds
        rw [e1, e0]
        dsimp only
        rw [e2]
        show (some k) :: retD (asL (c + 1) ds) (ansD g _ (asL (c + 1) ds)) = _
        exact congrArg _ i4
end K94
set_option maxHeartbeats 4000000
/-! the law's deeds -/
namespace K94
open PySem PySem.Spec PyProof.Rows L2 StX
abbrev Q0 : CW := (Cor.zero, Wks.zero)
theorem endD_snoc (g : Gam) (q : CW) (ds : List Deed) (d : Deed) : endD g q (ds ++ [d]) = (stepD g (endD g q ds) d).1 := by unfold endD; rw [List.foldl_append]; rfl
theorem LegalH.snoc {g : Gam} : ∀ {ds : List Deed} {q : CW} {d : Deed}, LegalH g q ds → Legal g (endD g q ds) d → LegalH g q (ds ++ [d])
  | [], _, _, _, h => ⟨h, True.intro⟩
  | a :: ds, q, d, ⟨h1, h2⟩, h => ⟨h1, LegalH.snoc (ds := ds) h2 h⟩
theorem LegalH.take {g : Gam} : ∀ {ds : List Deed} {q : CW} (i : Nat), LegalH g q ds → LegalH g q (ds.take i)
  | _, _, 0, _ => True.intro
  | [], _, _ + 1, _ => True.intro
  | _ :: ds, _, i + 1, ⟨h1, h2⟩ => ⟨h1, LegalH.take (ds := ds) i h2⟩
theorem hist0 {g : Gam} (mok : g.M.Ok) {ds : List Deed} (h : LegalH g Q0 ds) (hl : ds.length ≤ 100) : Hist g Q0 ds :=
  hist_of mok ds Q0 0 h WF.zero Bnd.zero (by unfold DC BIG; omega) (by show 1 + ds.length < 1000; omega)
theorem scopes_le {g : Gam} (mok : g.M.Ok) : ∀ {ds : List Deed} {q : CW}, LegalH g q ds → WF g q.1 → (endD g q ds).1.scopes.length ≤ q.1.scopes.length + ds.length
  | [], _, _, _ => Nat.le_refl _
  | d :: ds, q, ⟨h1, h2⟩, wf => by
    have h3 := scopes_le mok (ds := ds) h2 (stepD_wf mok wf h1)
    have h4 := (pre_cost mok wf h1).2.2
    have h5 : (stepD g q d).1.1.scopes.length ≤ q.1.scopes.length + 1 := by show (finF g _ _).scopes.length ≤ _; rw [fin_sc]; exact h4
    rw [List.length_cons]
    show (endD g (stepD g q d).1 ds).1.scopes.length ≤ _
    omega
/-- what the next deed asks -/
theorem dpre0 {K : PySem.W.Frag} {g : Gam} {H0 H : Hp} {A : Ad} {ds : List Deed} {d : Deed} (mok : g.M.Ok) (c : Ctr K g H0 H A (endD g Q0 ds).1 (endD g Q0 ds).2) (h : LegalH g Q0 (ds ++ [d])) (hl : ds.length < 100) : DPre K g H0 H A (endD g Q0 ds).1 (endD g Q0 ds).2 d := by
  have hh := hist0 mok h (by rw [List.length_append, List.length_singleton]; omega)
  have hi : (ds ++ [d])[ds.length]? = some d := by rw [List.getElem?_append_right (Nat.le_refl _), Nat.sub_self]; rfl
  have h1 := hh.at hi
  have h2 := Hist.wf mok ds.length hh WF.zero
  rw [List.take_append_of_le_length (Nat.le_refl _), List.take_length] at h1 h2
  exact ⟨c, h2, h1.1, h1.2.1, h1.2.2.1, h1.2.2.2⟩
theorem beg_legal {g : Gam} {d : Nat} (hd : g.M.depth = d) : ∀ (n : Nat) (fs : List Nat), fs.length = n → BegOk d fs → LegalH g Q0 (fs.map Deed.begin) ∧ (endD g Q0 (fs.map Deed.begin)).1.scopes = scF fs ∧ (endD g Q0 (fs.map Deed.begin)).2.ws = []
  | 0, fs, h, _ => by
    have : fs = [] := List.length_eq_zero_iff.mp h
    subst this
    exact ⟨True.intro, rfl, rfl⟩
  | n + 1, fs, h, hb => by
    rcases List.eq_nil_or_concat fs with rfl | ⟨ini, s, rfl⟩
    · simp at h
    · rw [List.concat_eq_append] at *
      rw [List.length_append, List.length_singleton] at h
      have hbi : BegOk d ini := fun i u e => by
        have hi := (List.getElem?_eq_some_iff.mp e).1
        obtain ⟨x, h1, h2⟩ := hb i u (by rw [List.getElem?_append_left hi]; exact e)
        rw [List.take_append_of_le_length (by omega)] at h1
        exact ⟨x, h1, h2⟩
      obtain ⟨i1, i2, i3⟩ := beg_legal hd n ini (by omega) hbi
      obtain ⟨x, h1, h2, h3⟩ := hb ini.length s (by rw [List.getElem?_append_right (Nat.le_refl _), Nat.sub_self]; rfl)
      rw [List.take_append_of_le_length (Nat.le_refl _), List.take_length] at h1
      have hleg : Legal g (endD g Q0 (ini.map Deed.begin)) (.begin s) := ⟨i3, x, by rw [i2]; exact h1, h2, by rw [hd]; exact h3⟩
      rw [List.map_append]
      refine ⟨LegalH.snoc i1 hleg, ?_, ?_⟩
      · show (endD g Q0 (ini.map Deed.begin ++ [.begin s])).1.scopes = _
        rw [endD_snoc, scF_snoc, ← i2]
        show (finF g _ _).scopes = _
        rw [fin_sc]
        rfl
      · show (endD g Q0 (ini.map Deed.begin ++ [.begin s])).2.ws = _
        rw [endD_snoc]
        exact i3
theorem Ctr.adopt {K : PySem.W.Frag} {g : Gam} {H0 H : Hp} {A : Ad} {S : Cor} {W : Wks} {L : Addr} {o : HO} (c : Ctr K g H0 H A S W) (h : H L = some o) (hr : ∀ r, (cont K g A S W r).isSome = true → A.a r ≠ L) : Ctr K g (upd H0 L o) H A S W ∧ Same H0 (upd H0 L o) := by
  have s : Same H0 (upd H0 L o) := fun b u e => by
    by_cases q : b = L
    · rw [q] at e ⊢
      rw [upd_same, ← h]
      exact c.same _ _ e
    · rw [upd_ne q]
      exact e
  refine ⟨⟨c.st.mono s, fun b u e => ?_, c.at_, c.inj, fun r hs => ?_, c.fts, c.wks⟩, s⟩
  · by_cases q : b = L
    · rw [q, upd_same] at e
      rw [q, h]
      exact e
    · rw [upd_ne q] at e
      exact c.same _ _ e
  · rw [upd_ne (hr r hs)]
    exact c.new r hs
theorem plain_use {d : Deed} (h : ∀ k, d ≠ .run k) (h2 : d.word ≠ "later") : Plain d := by
  cases d with
  | later r n => exact absurd rfl h2
  | run k => exact absurd rfl (h k)
  | _ => exact True.intro
section
variable {P : Program} {w : World} {K : PySem.W.Frag} {mg : Str → Option Value} {base : Heap} {f : Addr} {fd : FuncData}
def spDeeds (K : PySem.W.Frag) : Sp := fun vs H Q _ => ∃ (g : Gam) (D wl cl : Addr) (m : Nat), vs = [.ref D, .ref g.b, .ref g.pa, .int (g.M.depth : Nat)] ∧ Stat K H g ∧ DrawAt H D wl cl (m + 207) ∧ g.M.names.length ≤ 1000 ∧
  ∀ H' L us ds, Keep D wl H H' → H L = none → H' L = some (.lst us) → DeedsAt H' us ds → LegalH g Q0 ds → (∀ d ∈ ds, Plain d) → ds.length ≤ 29 → DrawAt H' D wl cl m → Q (.ref L) H'
theorem ok__law_deeds {k : Nat} (hk : 20 ≤ k) (F : FnP K "_law_deeds" "_law_deeds" s__law_deeds f fd) (T : Txt K mg) (k_Container : GC P w K mg base 8 "Container" (CContainer K) P_Container___init__ (spCInit K)) (g__law_begun_deeds : GF P w K mg base 5 "_law_begun_deeds" P__law_begun_deeds spBegunDeeds)
    (g__law_shop_deed : GF P w K mg base 5 "_law_shop_deed" P__law_shop_deed (spShopDeed K)) (m_Container_do : GM P w K mg base k (CContainer K) "do" P_Container_do (spDo K)) : FnOk P w K mg base CX0 (k + 1) f fd P__law_deeds (spDeeds K) := by
  refine okD F sc__law_deeds (fun vs H Q E h => ?_) (fun cdv A outer s H vs Q E hr h => ?_)
  · obtain ⟨_, _, _, _, _, rfl, _⟩ := h; rfl
  · obtain ⟨g, D, wl, cl, m, rfl, st, dr, hnm, q⟩ := h
    have nd := sc__law_deeds.nd
    refine ⟨_, pss_cons (ps_par (i := 4) (j := 5) (by rfl) nd rfl rfl (by decide) rfl rfl (pa_cons (pe_c k_Container (hr.mono (by omega)) (pa_cons (pv 1) (pa_cons (pv 2) pa_nil))) (pa_cons (pe_g g__law_begun_deeds (hr.mono (by omega)) (pa_cons (pv 0) (pa_cons (pv 3) pa_nil))) pa_nil)) (by rfl))
    (pss_cons (ps_for PassesOwn.never rfl (pi_list (pv 5)) (pg_name (i := 6) nd rfl (Or.inl rfl))
      (pss_one (ps_expr (pe_m m_Container_do hr (pv 4) (pa_cons (pv 6) pa_nil)))))
    (pss_cons (ps_for PassesOwn.never rfl (pi_range1 (by rfl) T.f_range (pa_cons (pe_int) pa_nil)) (pg_name (i := 7) nd rfl (Or.inl rfl))
      (pss_cons (ps_set (i := 6) nd rfl (Or.inl rfl) (pe_g g__law_shop_deed (hr.mono (by omega)) (pa_cons (pv 0) (pa_cons (pv 4) (pa_cons (pv 3) (pa_cons (pe_bl) pa_nil))))))
      (pss_cut (ps_if (pt_cmpR op_eq (pe_ix ix_tup (pv 6) (pe_int) (fun _ _ => rfl)) (pe_str) (nomark _))
        (pss_one (ps_set (i := 6) nd rfl (Or.inl rfl) (pe_tup (pa_cons (pe_str) (pa_cons (pe_ix ix_tup (pv 6) (pe_int) (fun _ _ => rfl)) (pa_cons (pe_ix ix_tup (pv 6) (pe_int) (fun _ _ => rfl)) pa_nil))))))
        (pss_nil))
      (pss_cons (ps_expr (pe_m m_Container_do hr (pv 4) (pa_cons (pv 6) pa_nil)))
      (pss_one (ps_set (i := 5) nd rfl (Or.inl rfl) (pe_op op_cat (pv 5) (pe_lst (pa_cons (pv 6) pa_nil)))))))))
    (pss_one (ps_ret (pv 5))))), ?_⟩
    have mok := st.mok
    refine ⟨_, rfl, _, rfl, fun y dy ny ndy hne => ?_⟩
    have sM : Same H (upd (upd H dy (.own y)) y (.ins (CContainer K) dy [])) := (Same.new ndy).trans (Same.new (by rw [upd_ne (Ne.symm hne)]; exact ny))
    refine ⟨y, dy, g, H, rfl, st, sM, ny, upd_same, fun A1 H1 c1 ea => ⟨rfl, ?_⟩⟩
    refine ⟨_, rfl, _, rfl, D, wl, cl, m + 200, g.M.depth, rfl, mok.d1, mok.d3, dr.mono c1.same, fun H2 L us fs k2 nL hL hds hbo hfl dr2 => ⟨_, _, rfl, ?_⟩⟩
    obtain ⟨H0', c2, dr0, kb⟩ := c1.draws dr k2 dr2
    obtain ⟨b1, b2, b3⟩ := beg_legal (g := g) rfl fs.length fs rfl hbo
    obtain ⟨nLD, nLW, nLC⟩ := (dr.mono c1.same).fresh nL
    have nLH : H L = none := c1.same.free nL
    obtain ⟨c3, sB⟩ := c2.adopt hL (c1.neNew nL)
    have dr3 := dr0.mono sB
    have kB : Keep D wl H (upd H0' L (.lst us)) := kb.trans (Same.keep sB)
    have hBL : (upd H0' L (.lst us)) L = some (.lst us) := upd_same
    generalize upd H0' L (.lst us) = B1 at c3 sB dr3 kB hBL
    obtain ⟨ds1, hds1⟩ : ∃ ds1, ds1 = fs.map Deed.begin := ⟨_, rfl⟩
    rw [← hds1] at hds b1 b2 b3
    have hl1 : ds1.length ≤ 9 := by rw [hds1, List.length_map]; exact hfl
    have hpl1 : ∀ d ∈ ds1, Plain d := fun d hd => by
      rw [hds1] at hd
      obtain ⟨s, _, rfl⟩ := List.mem_map.mp hd
      exact True.intro
    refine ⟨_, rfl, L, rfl, ⟨_, SqL.of hL⟩, for_list (K := K) (a := L) (xs := us) (fun i σ H' => ∃ (v6 : Option V) (A : Ad), σ = [some (.ref D), some (.ref g.b), some (.ref g.pa), some (.int (g.M.depth : Nat)), some (.ref y), some (.ref L), v6, none] ∧ A.a .self = y ∧ Ctr K g B1 H' A (endD g Q0 (ds1.take i)).1 (endD g Q0 (ds1.take i)).2 ∧ Tups H2 H') ⟨none, A1, rfl, ea, c3, Tups.refl _⟩ (fun i σ H' _ ⟨_, _, _, _, c', _⟩ => SqL.of (c'.same _ _ hBL)) ?_ ?_⟩
    · rintro i x σ H' hi ⟨v6, A, rfl, ea', c', tu'⟩
      obtain ⟨d, hd, a, rfl, hda⟩ := Paired.get hds hi
      have htk : ds1.take (i + 1) = ds1.take i ++ [d] := by rw [List.take_add_one, hd]; rfl
      have hleg := LegalH.take (i + 1) b1
      rw [htk] at hleg ⊢
      rw [endD_snoc]
      have hp := dpre0 mok c' hleg (by rw [List.length_take]; omega)
      exact ⟨_, rfl, _, _, _, rfl, by rw [← ea']; exact c'.self, no_Container_do, _, rfl, g, B1, A, _, _, a, d, by rw [ea']; rfl, tu' _ _ hda, hp, fun H3 A3 c4 ea4 tu4 => ⟨_, A3, rfl, ea4.trans ea', c4, tu'.trans tu4⟩⟩
    · rintro σ H3 ⟨v6, A, rfl, ea', c', tu'⟩
      rw [Paired.length hds, List.take_length] at c'
      refine ⟨20, rfl, by decide, by decide, ?_⟩
      refine for_range (lo := 0) (n := 20) (fun i σ H' => ∃ (v6 v7 : Option V) (A : Ad) (B : Hp) (L : Addr) (us : List V) (ds : List Deed), σ = [some (.ref D), some (.ref g.b), some (.ref g.pa), some (.int (g.M.depth : Nat)), some (.ref y), some (.ref L), v6, v7] ∧ A.a .self = y ∧ Ctr K g B H' A (endD g Q0 ds).1 (endD g Q0 ds).2 ∧ B L = some (.lst us) ∧ L ≠ D ∧ L ≠ wl ∧ H L = none ∧ DeedsAt H' us ds ∧ LegalH g Q0 ds ∧ (∀ d ∈ ds, Plain d) ∧ ds.length ≤ 9 + i ∧ (endD g Q0 ds).2.ws = [] ∧ DrawAt B D wl cl (m + (20 - i) * 10) ∧ Keep D wl H B)
        ⟨_, _, A, B1, L, us, ds1, rfl, ea', c', hBL, nLD, nLW, nLH, hds.mono tu', b1, hpl1, hl1, b3, dr3, kB⟩ ?_ ?_
      · rintro i σ H4 hi ⟨v6, v7, A, B, L, us, ds, rfl, ea', c', hBL, nLD, nLW, nLH, hds, hleg, hpl, hlen, hws, drB, kHB⟩
        have wf : WF g (endD g Q0 ds).1 := by
          have := Hist.wf mok ds.length (hist0 mok hleg (by omega)) WF.zero
          rw [List.take_length] at this
          exact this
        have hsc : (endD g Q0 ds).1.scopes.length ≤ 1000 := by
          have h1 := scopes_le mok hleg WF.zero
          have h2 : Q0.1.scopes.length = 1 := rfl
          omega
        obtain ⟨b0, hb0⟩ : ∃ b0, b0 = m + (20 - (i + 1)) * 10 := ⟨_, rfl⟩
        refine ⟨_, rfl, _, rfl, _, rfl, g, B, A, _, _, D, wl, cl, b0, by rw [ea']; rfl, c', wf, hws, drB.less (by omega), hsc, hnm, fun H5 B5 a d c5 d5 kH kB5 nA hda hld hnr => ?_⟩
        have hda : H5 a = some (.tup d.vs) := hda
        refine ⟨fun σ' H6 => ∃ (a' : Addr) (d' : Deed), σ' = [some (.ref D), some (.ref g.b), some (.ref g.pa), some (.int (g.M.depth : Nat)), some (.ref y), some (.ref L), some (.ref a'), some (.int (0 + (i : Nat)))] ∧ Same H5 H6 ∧ DeedAt H6 a' d' ∧ Legal g (endD g Q0 ds) d' ∧ Plain d', ?_, ?_⟩
        · refine ⟨_, rfl, a, d.vs, 0, _, rfl, rfl, SqT.of hda, d.at0, rfl, _, rfl, ?_⟩
          by_cases hw : d.word = "later"
          · rw [decide_eq_true (str_iff.mpr hw)]
            obtain ⟨r, n, rfl⟩ : ∃ r n, d = .later r n := by
              cases d with
              | later r n => exact ⟨r, n, rfl⟩
              | begin s => exact absurd (show ("begin" : Str) = "later" from hw) (by decide)
              | close s => exact absurd (show ("close" : Str) = "later" from hw) (by decide)
              | ask r n => exact absurd (show ("ask" : Str) = "later" from hw) (by decide)
              | use r n => exact absurd (show ("use" : Str) = "later" from hw) (by decide)
              | run k => exact absurd (show ("run" : Str) = "later" from hw) (by decide)
            exact iteT ⟨_, rfl, a, _, 1, _, rfl, rfl, SqT.of hda, rfl, _, rfl, a, _, 2, _, rfl, rfl, SqT.of hda, rfl, by show 3 ≤ sizeLine; rw [sizeLine_eq]; decide, fun t ht => ⟨t, .use r n, rfl, Same.new ht, upd_same, hld, True.intro⟩⟩
          · rw [decide_eq_false fun z => hw (str_iff.mp z)]
            exact iteF ⟨a, d, rfl, fun _ _ e => e, hda, hld, plain_use hnr hw⟩
        · rintro σ' H6 ⟨a', d', rfl, s6, hda6, hld6, hpl6⟩
          have c6 := c5.grow s6
          have hleg6 := LegalH.snoc hleg hld6
          have hp := dpre0 mok c6 hleg6 (by omega)
          refine ⟨_, rfl, _, _, _, rfl, by rw [← ea']; exact c6.self, no_Container_do, _, rfl, g, B5, A, _, _, a', d', by rw [ea']; rfl, hda6, hp, fun H7 A7 c7 ea7 tu7 => ?_⟩
          have hB5L : B5 L = some (.lst us) := kB5 L _ nLD nLW hBL
          have hda7 : DeedAt H7 a' d' := tu7 _ _ hda6
          have hul : us.length ≤ 29 := by rw [Paired.length hds]; omega
          refine ⟨_, rfl, _, rfl, by show 1 ≤ sizeLine; rw [sizeLine_eq]; decide, fun l1 hl1 => ?_⟩
          have s8 : Same H7 (upd H7 l1 (.lst [.ref a'])) := Same.new hl1
          have h18 : (upd H7 l1 (.lst [.ref a'])) l1 = some (.lst [.ref a']) := upd_same
          have c8 := c7.grow s8
          generalize upd H7 l1 (.lst [.ref a']) = H8 at s8 h18 c8 ⊢
          have hL8 : H8 L = some (.lst us) := c8.same _ _ hB5L
          refine ⟨_, _, _, _, rfl, rfl, hL8, h18, by show us.length + 1 ≤ sizeLine; rw [sizeLine_eq]; omega, fun Ln hLn => ?_⟩
          have d8 := d5.mono c8.same
          obtain ⟨nnD, nnW, nnC⟩ := d8.fresh hLn
          have kHB5 : Keep D wl H B5 := kHB.trans kB5
          have nLnH : H Ln = none := Keep.none d8 (kHB5.trans (Same.keep c8.same)) hLn
          have s9 : Same H8 (upd H8 Ln (.lst (us ++ [.ref a']))) := Same.new hLn
          have c9 := c8.grow s9
          have h9 : (upd H8 Ln (.lst (us ++ [.ref a']))) Ln = some (.lst (us ++ [.ref a'])) := upd_same
          generalize upd H8 Ln (.lst (us ++ [.ref a'])) = H9 at s9 c9 h9 ⊢
          obtain ⟨c10, sB10⟩ := c9.adopt h9 (c8.neNew hLn)
          have tu59 : Tups H4 H9 := (Keep.tups (drB.mono c'.same) kH).trans ((Same.tups s6).trans (tu7.trans (Same.tups (s8.trans s9))))
          refine ⟨_, _, A7, _, Ln, us ++ [.ref a'], ds ++ [d'], rfl, ea7.trans ea', by rw [endD_snoc]; exact c10, upd_same, nnD, nnW, nLnH, Paired.snoc ⟨a', rfl, (s8.trans s9) _ _ hda7⟩ (hds.mono tu59), hleg6, fun x hx => ?_, by rw [List.length_append, List.length_singleton]; omega, ?_, (by rw [← hb0]; exact d5.mono sB10), kHB5.trans (Same.keep sB10)⟩
          · rcases List.mem_append.mp hx with z | z
            · exact hpl x z
            · rw [List.mem_singleton.mp z]; exact hpl6
          · rw [endD_snoc]
            cases d' with
            | later r n => exact hpl6.elim
            | run k => exact hpl6.elim
            | _ => exact hws
      · rintro σ H4 ⟨v6, v7, A, B, L, us, ds, rfl, ea', c', hBL, nLD, nLW, nLH, hds, hleg, hpl, hlen, hws, drB, kHB⟩
        exact ⟨_, rfl, q H4 L us ds (kHB.trans (Same.keep c'.same)) nLH (c'.same _ _ hBL) hds hleg hpl (by omega) ((drB.mono c'.same).less (by omega))⟩
end
end K94
set_option maxHeartbeats 4000000
/-! the texts in the faults -/
namespace K94
open PySem PySem.Spec PyProof.Rows L2 StX
def POk (p : List Str) : Prop := ∀ x ∈ p, PyData.strOk x = true
def FOk (S : Cor) : Prop := ∀ f ∈ S.faults, PyData.strOk f.1 = true ∧ POk f.2.2
theorem POk.snoc {p : List Str} {n : Str} (h : POk p) (hn : PyData.strOk n = true) : POk (p ++ [n]) := fun x hx => by
  rcases List.mem_append.mp hx with z | z
  · exact h x z
  · rw [List.mem_singleton.mp z]; exact hn
theorem fok_fault {S : Cor} {w : Str} {k : Nat} {p : List Str} (h : FOk S) (hw : PyData.strOk w = true) (hp : POk p) : FOk (S.fault w k p) := fun f hf => by
  have hf : f ∈ S.faults ++ [(w, k, p)] := hf
  rcases List.mem_append.mp hf with z | z
  · exact h f z
  · rw [List.mem_singleton.mp z]; exact ⟨hw, hp⟩
theorem fok_of {S S' : Cor} (h : FOk S) (e : S'.faults = S.faults) : FOk S' := fun f hf => h f (by rw [← e]; exact hf)
theorem miss_fok {S : Cor} {k : Nat} {p : List Str} {o : Option Nat} (h : FOk S) (hp : POk p) : FOk (miss S k p o) := by
  cases o with
  | none => exact fok_fault h (by decide +kernel) hp
  | some _ => exact h
theorem addGot_fa (S : Cor) (k : Nat) (o : Option Nat) : (S.addGot k o).faults = S.faults := by
  unfold Cor.addGot
  split <;> rfl
theorem get_fok {g : Gam} (mok : g.M.Ok) : ∀ (f : Nat) (S : Cor) (n : Str) (s req : Nat) (p : List Str), POk p → FOk S → FOk (getF g f S n s req p).1
  | 0, S, _, _, _, _, _, h => h
  | f + 1, S, n, s, req, p, hp, h => by
    have mk : ∀ (home : Nat), FOk (makeG g (getF g f) S n home req p) := fun home => by
      unfold makeG
      cases hg : g.M.get n with
      | none =>
        have hw : g.M.wants n = [] := by unfold PM.wants; rw [hg]
        rw [hw]
        exact fok_of h rfl
      | some pr =>
        rw [wants_of hg]
        refine foldl_inv (P := FOk) pr.wants _ (fun S' w hw h' => ?_) (fok_of h rfl)
        have hs := (mok.nmOk w.2 (mok.down n pr hg w hw).1).1
        unfold makeStep
        split
        · exact fok_of (miss_fok (get_fok mok f S' w.2 _ _ _ (hp.snoc hs) h') (hp.snoc hs)) (addGot_fa _ _ _)
        · exact h'
    rw [getF_succ]
    split
    · exact mk s
    · cases placeOf g S.scopes n s with
      | none => exact h
      | some pl =>
        show FOk (match kget S.kept n pl with | some k => (S, some k) | none => _ : Cor × Option Nat).1
        cases kget S.kept n pl with
        | some k => exact h
        | none => exact fok_of (mk pl) rfl
theorem loose_fa (g : Gam) (S : Cor) (o : Option Nat) : (letLoose g S o).faults = S.faults := by
  cases o with
  | none => rfl
  | some k =>
    show (if _ then _ else _ : Cor).faults = _
    split <;> rfl
theorem head_fok {g : Gam} {S : Cor} {k req : Nat} {p : List Str} {t : Thg} (h : FOk S) (hp : POk p) : FOk (useHead g S k req p t) := by
  have h1 : FOk (if t.ended = true then S.fault "ended" k p else S) := by
    split
    · exact fok_fault h (by decide +kernel) hp
    · exact h
  unfold useHead
  show FOk (if _ then _ else _)
  split
  · exact fok_fault h1 (by decide +kernel) hp
  · exact h1
theorem use_fok {g : Gam} (mok : g.M.Ok) : ∀ (f : Nat) (S : Cor) (k req : Nat) (p : List Str), POk p → FOk S → FOk (useF g f S k req p)
  | 0, S, _, _, _, _, h => h
  | f + 1, S, k, req, p, hp, h => by
    cases et : S.things[k]? with
    | none =>
      show FOk (match S.things[k]? with | none => S | some t => _)
      rw [et]
      exact h
    | some t =>
      rw [useF_succ g f et]
      cases hg : g.M.get t.name with
      | none =>
        have hw : g.M.wants t.name = [] := by unfold PM.wants; rw [hg]
        rw [hw]
        exact head_fok h hp
      | some pr =>
        rw [wants_of hg]
        refine foldl_inv (P := fun (q : Cor × List (Option Nat)) => FOk q.1) pr.wants _ (fun q w hw h' => ?_) (head_fok h hp)
        have hs := (mok.nmOk w.2 (mok.down t.name pr hg w hw).1).1
        obtain ⟨S', rest⟩ := q
        cases hb : w.1 with
        | true =>
          rw [step_held hb]
          cases rest.headD none with
          | none => exact h'
          | some j => exact use_fok mok f S' j req _ (hp.snoc hs) h'
        | false =>
          rcases ew : wantedG (getF g TOP) S' k w.2 (if g.bk.each = "now" then req else 0) req p with ⟨S1, o⟩
          rw [step_each hb ew]
          have h1 : FOk S1 := by
            have e1 : (wantedG (getF g TOP) S' k w.2 (if g.bk.each = "now" then req else 0) req p).1 = S1 := by rw [ew]
            rw [← e1]
            exact miss_fok (get_fok mok TOP S' w.2 _ _ _ (hp.snoc hs) h') (hp.snoc hs)
          have h2 : FOk (letLoose g S1 o) := fok_of h1 (loose_fa g S1 o)
          cases o with
          | none => exact h2
          | some j => exact use_fok mok f _ j req _ (hp.snoc hs) h2
theorem leftFold_fok {g : Gam} (mok : g.M.Ok) {T : List Thg} (hT : ∀ (k : Nat) (t : Thg), T[k]? = some t → (g.M.get t.name).isSome = true) : ∀ (l : List Nat) (S : Cor), FOk S → FOk (l.foldl (leftStep g T) S) := fun l S h =>
  foldl_inv (P := FOk) l S (fun S' k _ h' => by
    cases e : T[k]? with
    | none =>
      have : leftStep g T S' k = S' := by unfold leftStep; rw [e]
      rw [this]
      exact h'
    | some t =>
      by_cases q : (g.M.life t.name = -1 ∧ t.ended = false) ∧ ¬ Att g T k ∧ k ∉ S'.left
      · rw [leftStep_yes e q]
        exact fok_fault (fok_of h' rfl) (by decide +kernel) (fun x hx => by rw [List.mem_singleton.mp hx]; exact (mok.nmOk _ (hT k t e)).1)
      · rw [leftStep_no e q]
        exact h') h
theorem fin_fok {g : Gam} (mok : g.M.Ok) {S : Cor} {b : Bool} (wf : WF g S) (h : FOk S) : FOk (finF g S b) := by
  have e0 := finS0_le g S
  have h1 : FOk (finS1 g S) := fok_of h e0.fa
  rw [finF_eq]
  split
  · exact leftFold_fok mok (fun k t e => ((finS1_wf wf).th e).nm) _ _ h1
  · exact h1
theorem step_fok {g : Gam} (mok : g.M.Ok) {q : CW} {d : Deed} (wf : WF g q.1) (hl : Legal g q d) (h : FOk q.1) : FOk (stepD g q d).1.1 := by
  refine fin_fok mok (pre_wf mok wf hl) ?_
  have p1 : ∀ {n : Str}, (g.M.get n).isSome = true → POk [n] := fun {n} hn x hx => by rw [List.mem_singleton.mp hx]; exact (mok.nmOk n hn).1
  have run : ∀ {S : Cor} {r : Nat} {n : Str} {o : Option Nat}, FOk S → POk [n] → FOk (runU g S r n o) := fun {S r n o} h hp => by
    cases o with
    | none => exact h
    | some k => exact use_fok mok TOP _ k r [n] hp (fok_of h (loose_fa g S (some k)))
  cases d with
  | begin s => exact fok_of h rfl
  | close s =>
    have e1 : (shutF g q.1 s).faults = (q.1.close s).faults := (shut_le g q.1 s).fa
    refine fok_of h (e1.trans ?_)
    unfold Cor.close
    split <;> rfl
  | ask r n =>
    obtain ⟨_, _, _, _, _, hn⟩ := hl
    exact fok_of (get_fok mok TOP q.1 n r r [n] (p1 hn) h) (loose_fa g _ _)
  | use r n =>
    obtain ⟨_, _, _, _, _, hn⟩ := hl
    exact run (get_fok mok TOP q.1 n r r [n] (p1 hn) h) (p1 hn)
  | later r n =>
    obtain ⟨_, _, _, _, _, hn⟩ := hl
    exact get_fok mok TOP q.1 n r r [n] (p1 hn) h
  | run w =>
    obtain ⟨r, n, k, t, e, _, et, hn⟩ := hl
    have e1 : (preD g q (.run w)).1.1 = runU g q.1 r n (some k) := by unfold preD; rw [e]
    rw [e1]
    exact run h (p1 (by rw [← hn]; exact (wf.th et).nm))
theorem hist_fok {g : Gam} (mok : g.M.Ok) : ∀ {ds : List Deed} {q : CW}, LegalH g q ds → WF g q.1 → FOk q.1 → FOk (endD g q ds).1 ∧ WF g (endD g q ds).1
  | [], _, _, wf, h => ⟨h, wf⟩
  | d :: ds, q, ⟨h1, h2⟩, wf, h => hist_fok mok (ds := ds) h2 (stepD_wf mok wf h1) (step_fok mok wf h1 h)
theorem FOk.zero : FOk Cor.zero := fun f hf => nomatch hf
end K94
set_option maxHeartbeats 4000000
/-! lists of things, of told faults, of answers as plain data -/
namespace K94
open PySem PySem.Spec PyProof.Rows L2 StX
def oD : Option Nat → PyData
  | none => .none
  | some n => .int (n : Nat)
def thD (t : Thg) : PyData := .tuple [.str t.name, .int (t.home : Nat), .bool t.ended, .tuple (t.got.map oD)]
theorem dp_o (K : PySem.W.Frag) (H : Hp) : ∀ o : Option Nat, Dp K H (oV o) (oD o)
  | none => .non
  | some n => .int _
theorem dp_os (K : PySem.W.Frag) (H : Hp) : ∀ os : List (Option Nat), DpAll K H (os.map oV) (os.map oD)
  | [] => .nil
  | o :: os => .cons (dp_o K H o) (dp_os K H os)
theorem dp_th {K : PySem.W.Frag} {H : Hp} {v : V} {t : Thg} (h : ThAt H v t) : Dp K H v (thD t) := by
  obtain ⟨a, b, rfl, h1, h2⟩ := h
  exact .tup (SqT.of h1) (.cons (.str _) (.cons (.int _) (.cons (.bl _) (.cons (.tup (SqT.of h2) (dp_os K H _)) .nil))))
theorem dp_ths {K : PySem.W.Frag} {H : Hp} {us : List V} {ts : List Thg} (h : Paired (ThAt H) us ts) : DpAll K H us (ts.map thD) := by
  induction h with
  | nil => exact .nil
  | cons a _ ih => exact .cons (dp_th a) ih
theorem dp_list {K : PySem.W.Frag} {H : Hp} {L : Addr} {us : List V} {ds : List PyData} (e : H L = some (.lst us)) (h : DpAll K H us ds) : Dp K H (.ref L) (.list ds) := .lst (SqL.of e) h
theorem ne_same {d : PyData} (h : SeqAt.shaped d = true) : (!PyData.eqv d d) = false := by rw [SeqAt.eqv_refl d (SeqAt.canLay_of_shaped h)]; rfl
theorem lay_all : ∀ {ds : List PyData}, (∀ d ∈ ds, d.canLay0 = true) → PyData.canLayAll0 ds = true
  | [], _ => by simp [PyData.canLayAll0]
  | d :: ds, h => by
    have h1 := h d List.mem_cons_self
    have h2 := lay_all (ds := ds) fun x hx => h x (List.mem_cons_of_mem _ hx)
    simp [PyData.canLayAll0, h1, h2]
theorem deep_all {n : Nat} : ∀ {ds : List PyData}, (∀ d ∈ ds, d.depth ≤ n) → PyData.depthAll ds ≤ n
  | [], _ => by simp [PyData.depthAll]
  | d :: ds, h => by
    have h1 := h d List.mem_cons_self
    have h2 := deep_all (ds := ds) fun x hx => h x (List.mem_cons_of_mem _ hx)
    simp only [PyData.depthAll]
    omega
def Fine (n : Nat) (d : PyData) : Prop := d.canLay0 = true ∧ d.depth ≤ n
theorem Fine.up {n m : Nat} {d : PyData} (h : Fine n d) (l : n ≤ m) : Fine m d := ⟨h.1, Nat.le_trans h.2 l⟩
theorem Fine.lst {n : Nat} {ds : List PyData} (h : ∀ d ∈ ds, Fine n d) : Fine (n + 1) (.list ds) := by
  have h1 := lay_all fun d hd => (h d hd).1
  have h2 := deep_all fun d hd => (h d hd).2
  refine ⟨by simp [PyData.canLay0, h1], ?_⟩
  simp only [PyData.depth]
  omega
theorem Fine.tup {n : Nat} {ds : List PyData} (h : ∀ d ∈ ds, Fine n d) : Fine (n + 1) (.tuple ds) := by
  have h1 := lay_all fun d hd => (h d hd).1
  have h2 := deep_all fun d hd => (h d hd).2
  refine ⟨by simp [PyData.canLay0, h1], ?_⟩
  simp only [PyData.depth]
  omega
theorem Fine.shaped {n : Nat} {d : PyData} (h : Fine n d) (l : n ≤ 64) : SeqAt.shaped d = true := by
  show (d.canLay0 && decide (d.depth ≤ 64)) = true
  rw [h.1, decide_eq_true (Nat.le_trans h.2 l)]
  rfl
theorem fine_o : ∀ o : Option Nat, Fine 1 (oD o)
  | none => ⟨by simp [oD, PyData.canLay0], by simp [oD, PyData.depth]⟩
  | some n => ⟨by simp [oD, PyData.canLay0], by simp [oD, PyData.depth]⟩
theorem fine_os {os : List (Option Nat)} : ∀ d ∈ os.map oD, Fine 1 d := fun d hd => by
  obtain ⟨o, _, rfl⟩ := List.mem_map.mp hd
  exact fine_o o
theorem fine_th {t : Thg} (h : PyData.strOk t.name = true) : Fine 3 (thD t) := by
  refine Fine.tup (n := 2) fun d hd => ?_
  simp only [List.mem_cons, List.not_mem_nil, or_false] at hd
  rcases hd with rfl | rfl | rfl | rfl
  · exact ⟨by simpa [PyData.canLay0] using h, by simp [PyData.depth]⟩
  · exact ⟨by simp [PyData.canLay0], by simp [PyData.depth]⟩
  · exact ⟨by simp [PyData.canLay0], by simp [PyData.depth]⟩
  · exact Fine.tup fine_os
def ftD (f : Str × Nat × List Str) : PyData := .tuple [.str f.1, .int (f.2.1 : Nat), .tuple (f.2.2.map PyData.str)]
theorem dp_strs (K : PySem.W.Frag) (H : Hp) : ∀ os : List Str, DpAll K H (os.map V.str) (os.map PyData.str)
  | [] => .nil
  | o :: os => .cons (.str o) (dp_strs K H os)
/-- a fault without its place in the order -/
def CutAt (H : Hp) (v : V) (f : Str × Nat × List Str) : Prop := ∃ a pa, v = .ref a ∧ H a = some (.tup [.str f.1, .int (f.2.1 : Nat), .ref pa]) ∧ PathAt H pa f.2.2
theorem CutAt.mono {H H' : Hp} (s : Tups H H') {v : V} {f : Str × Nat × List Str} (h : CutAt H v f) : CutAt H' v f := by
  obtain ⟨a, pa, e, h1, h2⟩ := h
  exact ⟨a, pa, e, s _ _ h1, s _ _ h2⟩
theorem dp_cut {K : PySem.W.Frag} {H : Hp} {v : V} {f : Str × Nat × List Str} (h : CutAt H v f) : Dp K H v (ftD f) := by
  obtain ⟨a, pa, rfl, h1, h2⟩ := h
  exact .tup (SqT.of h1) (.cons (.str _) (.cons (.int _) (.cons (.tup (SqT.of h2) (dp_strs K H _)) .nil)))
theorem dp_cuts {K : PySem.W.Frag} {H : Hp} {us : List V} {ts : List (Str × Nat × List Str)} (h : Paired (CutAt H) us ts) : DpAll K H us (ts.map ftD) := by
  induction h with
  | nil => exact .nil
  | cons a _ ih => exact .cons (dp_cut a) ih
theorem fine_ft {f : Str × Nat × List Str} (h : PyData.strOk f.1 = true) (hp : POk f.2.2) : Fine 3 (ftD f) := by
  refine Fine.tup (n := 2) fun d hd => ?_
  simp only [List.mem_cons, List.not_mem_nil, or_false] at hd
  rcases hd with rfl | rfl | rfl
  · exact ⟨by simpa [PyData.canLay0] using h, by simp [PyData.depth]⟩
  · exact ⟨by simp [PyData.canLay0], by simp [PyData.depth]⟩
  · refine Fine.tup fun d hd => ?_
    obtain ⟨o, ho, rfl⟩ := List.mem_map.mp hd
    exact ⟨by simpa [PyData.canLay0] using hp o ho, by simp [PyData.depth]⟩
end K94
set_option maxHeartbeats 4000000
/-! the law's own def -/
namespace K94
open PySem PySem.Spec PyProof.Rows L2 StX
theorem end_sz {g : Gam} : ∀ {ds : List Deed} {q : CW}, Hist g q ds → sz q.1 ≤ BIG → sz (endD g q ds).1 ≤ BIG
  | [], _, _, h => h
  | _ :: ds, _, hh, _ => end_sz (ds := ds) hh.2.2.2.2 hh.2.2.2.1
theorem sz_faults (S : Cor) : S.faults.length ≤ sz S := by unfold sz; omega
theorem tFine {g : Gam} {S : Cor} (mok : g.M.Ok) (wf : WF g S) : SeqAt.shaped (.list (S.things.map thD)) = true := by
  refine Fine.shaped (n := 4) (Fine.lst fun d hd => ?_) (by decide)
  obtain ⟨t, ht, rfl⟩ := List.mem_map.mp hd
  obtain ⟨k, hk⟩ := List.getElem?_of_mem ht
  exact fine_th (mok.nmOk _ (wf.th hk).nm).1
theorem fFine {S : Cor} (h : FOk S) : SeqAt.shaped (.list (S.faults.map ftD)) = true := by
  refine Fine.shaped (n := 4) (Fine.lst fun d hd => ?_) (by decide)
  obtain ⟨t, ht, rfl⟩ := List.mem_map.mp hd
  exact fine_ft (h t ht).1 (h t ht).2
theorem oFine (os : List (Option Nat)) : SeqAt.shaped (.list (os.map oD)) = true := Fine.shaped (n := 2) (Fine.lst fine_os) (by decide)
theorem opN_mem {sc : List Scp} {n : Nat} {p : Key × V} (h : p ∈ opN sc n) : valV (opN sc n) p.1 = some p.2 ∧ flatB p.2 = true := by
  unfold opN at h
  obtain ⟨i, hi, rfl⟩ := List.mem_map.mp h
  obtain ⟨h1, h2⟩ := List.mem_filter.mp hi
  refine ⟨opN_get h2 (List.mem_range.mp h1), ?_⟩
  show flatB (oV _) = true
  cases undO sc i <;> rfl
theorem cut4 (a b c d : V) : cutV [a, b, c, d] (some 1) none = [b, c, d] := rfl
theorem no_whole {a b c d : V} (h : HT.sIx [a, b, c, d].length 0 (some 1) = 0) : False := by
  have h : HT.sIx 4 0 (some ((1 : Nat) : Int)) = 0 := h
  rw [HT.sIx_nat] at h
  exact absurd h (by decide)
/-- the faults without their deeds -/
theorem told_rd {K : PySem.W.Frag} {g : Gam} {H0 H : Hp} {A : Ad} {S : Cor} {W : Wks} {Q : VK} (c : Ctr K g H0 H A S W) (hz : S.faults.length ≤ BIG) {m : Nat} {x0 x1 x2 x3 x4 x5 x6 x7 x8 x9 x10 x11 x12 : Option V} (hm : [x0, x1, x2, x3, x4, x5, x6, x7, x8, x9, x10, x11, x12][m]? = some (some (.ref (A.a .self))))
    (q : ∀ D H' us, Same H H' → H D = none → H' D = some (.lst us) → Paired (CutAt H') us S.faults → Q (.ref D) H') :
    tLc (iList K (tMeth (CContainer K) "faults" (spFaults K) [] E0 (tVar m) tNil)) (gName 12) tYes (tSl (rSlT K) (tVar 12) (tPart (tC (.int 1))) tNoPart) [12] [x0, x1, x2, x3, x4, x5, x6, x7, x8, x9, x10, x11, x12] H Q := by
  refine ⟨_, hm, _, _, _, rfl, c.self, no_Container_faults, g, H0, A, S, W, rfl, c, fun L hL => ?_⟩
  have s1 : Same H (upd H L (.lst A.fv)) := Same.new hL
  have h1 : (upd H L (.lst A.fv)) L = some (.lst A.fv) := upd_same
  have c1 := c.grow s1
  generalize upd H L (.lst A.fv) = H1 at s1 h1 c1 ⊢
  refine ⟨L, rfl, ⟨_, SqL.of h1⟩, fun D hD => ?_⟩
  have nLD : L ≠ D := ne_of_none h1 hD
  refine lc_it (walk_list (K := K) (a := L) (xs := A.fv)) (fun i H' => ∃ us, Same H1 H' ∧ H' D = some (.lst us) ∧ Paired (CutAt H') us (S.faults.take i)) ⟨[], Same.new hD, upd_same, .nil⟩ (fun i H' _ h => SqL.of (h.choose_spec.1 _ _ h1)) ?_ ?_
  · rintro i x H' H'' hi ⟨us, h2, h3, h4⟩ ⟨rfl, hx⟩
    obtain ⟨f, hf, a, j, pa, rfl, e1, e2⟩ := Paired.get c1.fts hx
    have e1 := h2 _ _ e1
    have e2 : H'' pa = some (.tup (f.2.2.map V.str)) := h2 _ _ e2
    have htk : S.faults.take (i + 1) = S.faults.take i ++ [f] := by rw [List.take_add_one, hf]; rfl
    rw [htk]
    have hil := (List.getElem?_eq_some_iff.mp hf).1
    have hul : us.length = i := by rw [Paired.length h4, List.length_take]; omega
    refine ⟨rfl, _, rfl, _, rfl, a, _, rfl, SqT.of e1, (fun z => no_whole z.1), fun p hp => ?_⟩
    rw [cut4]
    have s3 : Same H'' (upd H'' p (.tup [.str f.1, .int (f.2.1 : Nat), .ref pa])) := Same.new hp
    have h5 := s3 _ _ h3
    have hpD : p ≠ D := fun z => by rw [z, h3] at hp; cases hp
    have ct : CutAt (upd H'' p (.tup [.str f.1, .int (f.2.1 : Nat), .ref pa])) (.ref p) f := ⟨p, pa, rfl, upd_same, s3 _ _ e2⟩
    generalize upd H'' p (.tup [.str f.1, .int (f.2.1 : Nat), .ref pa]) = H3 at s3 h5 ct ⊢
    have tu : Tups H3 (upd H3 D (.lst (us ++ [.ref p]))) := Tups.wr h5 True.intro
    refine ⟨us, h5, by rw [hul]; exact sline (by omega), us ++ [.ref p], fun b o e => ?_, upd_same, Paired.snoc (ct.mono tu) (Paired.mono (fun _ _ z => (z.mono (Same.tups s3)).mono tu) h4)⟩
    rw [upd_ne (ne_of_none e hD)]
    exact s3 _ _ (h2 b o e)
  · rintro H' ⟨us, h2, h3, h4⟩
    rw [Paired.length c1.fts, List.take_length] at h4
    exact q D H' us (s1.trans h2) (s1.free hD) h3 h4
def spLaw (K : PySem.W.Frag) : Sp := fun vs H Q _ => ∃ (a : Addr) (ns : List Int), vs = [.ref a] ∧ SqL K H a (ns.map V.int) ∧ (∀ H', Same H H' → SqL K H' a (ns.map V.int)) ∧ ns.length ≤ 63 ∧ ∀ H', Q (.bl true) H'
section
variable {P : Program} {w : World} {K : PySem.W.Frag} {mg : Str → Option Value} {base : Heap} {f : Addr} {fd : FuncData}
theorem ok_law {k : Nat} (hk : 20 ≤ k) (F : FnP K "law" "law" s_law f fd) (T : Txt K mg) (g__law_begun : GF P w K mg base 1 "_law_begun" P__law_begun (spBegun K)) (g__law_take : GF P w K mg base 2 "_law_take" P__law_take spTake) (g__law_pick : GF P w K mg base 3 "_law_pick" P__law_pick (spPick K))
    (g__law_drawn_fields : GF P w K mg base 4 "_law_drawn_fields" P__law_drawn_fields spFields) (g__law_parts : GF P w K mg base 7 "_law_parts" P__law_parts (spPartsOf K)) (g__law_small_parts : GF P w K mg base 5 "_law_small_parts" P__law_small_parts spSmall)
    (g__law_book : GF P w K mg base 7 "_law_book" P__law_book (spBookOf K)) (g__law_deeds : GF P w K mg base k "_law_deeds" P__law_deeds (spDeeds K)) (g__law_as_works : GF P w K mg base 1 "_law_as_works" P__law_as_works spAsWorks) (g_replayed : GF P w K mg base k "replayed" P_replayed (spReplayed K))
    (g__law_returned : GF P w K mg base 1 "_law_returned" P__law_returned spReturned) (g_answers_of : GF P w K mg base k "answers_of" P_answers_of (spAnswers K))
    (m_Container_things : GM P w K mg base 1 (CContainer K) "things" P_Container_things (spThings K)) (p_Container_scopes : GP P w K mg base 1 (CContainer K) "scopes" (spScopes K)) (m_Container_waiting : GM P w K mg base 1 (CContainer K) "waiting" P_Container_waiting (spWaiting K))
    (m_Container_faults : GM P w K mg base 1 (CContainer K) "faults" P_Container_faults (spFaults K)) : FnOk P w K mg base CX0 (k + 1) f fd P_law (spLaw K) := by
  refine okD F sc_law (fun vs H Q E h => ?_) (fun cdv A outer s H vs Q E hr h => ?_)
  · obtain ⟨_, _, rfl, _⟩ := h; rfl
  · obtain ⟨a, ns, rfl, ha, hka, hlen, q⟩ := h
    have nd := sc_law.nd
    refine ⟨_, pss_cons (ps_set (i := 1) nd rfl (Or.inl rfl) (pe_g g__law_begun (hr.mono (by omega)) (pa_cons (pv 0) pa_nil)))
    (pss_cons (ps_for PassesOwn.never rfl (pi_range1 (by rfl) T.f_range (pa_cons (pe_op op_add (pe_int) (pe_callB (call_min2 rfl) (by rfl) T.f_min (by decide +kernel) (pa_cons (pe_callB call_len_seq (by rfl) T.f_len (by decide +kernel) (pa_cons (pv 0) pa_nil)) (pa_cons (pe_int) pa_nil)))) pa_nil)) (pg_name (i := 2) nd rfl (Or.inl rfl))
      (pss_cons (ps_par (i := 3) (j := 4) (by rfl) nd rfl rfl (by decide) rfl rfl (pa_cons (pe_g g__law_drawn_fields (hr.mono (by omega)) (pa_cons (pv 1) pa_nil)) (pa_cons (pe_op op_add (pe_int) (pe_g g__law_take (hr.mono (by omega)) (pa_cons (pv 1) (pa_cons (pe_int) pa_nil)))) pa_nil)) (by rfl))
      (pss_cons (ps_dput (hu_of hr) (pv 3) (pe_str) (pe_g g__law_pick (hr.mono (by omega)) (pa_cons (pv 1) (pa_cons (pe_lst (pa_cons (pe_str) (pa_cons (pe_str) pa_nil))) pa_nil))) rfl)
      (pss_cons (ps_par (i := 5) (j := 6) (by rfl) nd rfl rfl (by decide) rfl rfl (pa_cons (pe_g g__law_book (hr.mono (by omega)) (pa_cons (pv 3) pa_nil)) (pa_cons (pe_g g__law_parts (hr.mono (by omega)) (pa_cons (pv 4) (pa_cons (pe_g g__law_small_parts (hr.mono (by omega)) (pa_cons (pv 1) (pa_cons (pv 4) (pa_cons (pe_int) pa_nil)))) pa_nil))) pa_nil)) (by rfl))
      (pss_cons (ps_set (i := 7) nd rfl (Or.inl rfl) (pe_g g__law_deeds (hr.mono (by omega)) (pa_cons (pv 1) (pa_cons (pv 5) (pa_cons (pv 6) (pa_cons (pv 4) pa_nil))))))
      (pss_cons (ps_set (i := 8) nd rfl (Or.inl rfl) (pe_g g__law_as_works (hr.mono (by omega)) (pa_cons (pv 7) pa_nil)))
      (pss_cons (ps_par (i := 9) (j := 10) (by rfl) nd rfl rfl (by decide) rfl rfl (pa_cons (pe_g g_replayed (hr.mono (by omega)) (pa_cons (pv 5) (pa_cons (pv 6) (pa_cons (pv 7) pa_nil)))) (pa_cons (pe_g g_replayed (hr.mono (by omega)) (pa_cons (pv 5) (pa_cons (pv 6) (pa_cons (pv 8) pa_nil)))) pa_nil)) (by rfl))
      (pss_cut (ps_if (PW.pt (pw_or (pt_cmpR (op_neD hr.units) (pe_m0 m_Container_things (hr.mono (by omega)) (pv 9)) (pe_m0 m_Container_things (hr.mono (by omega)) (pv 10)) (nomark _)) (pw_or (pt_cmpR (op_ne_dictA hr.units0) (pe_p p_Container_scopes (hr.mono (by omega)) (pv 9)) (pe_p p_Container_scopes (hr.mono (by omega)) (pv 10)) (nomark _)) (pw_or1 (pt_cmpR (op_ne_dictA hr.units0) (pe_m0 m_Container_waiting (hr.mono (by omega)) (pv 10)) (pe_dnewK) (nomark _))))))
        (pss_one (ps_ret (pe_bl)))
        (pss_nil))
      (pss_cut (ps_if (pt_cmpR (op_neD hr.units) (pe_lc (own := [("_law_told", 12)]) (g := gName 12) rfl nd (pi_list (pe_m0 m_Container_faults (hr.mono (by omega)) (pv 9))) (blkOk_by (N := N_law) (sc := defScope s_law) (own := [("_law_told", 12)]) (by decide +kernel)) (fun _ _ _ _ _ => pg_name (i := 12) nd rfl (Or.inl rfl)) (fun _ _ _ _ _ => pts_nil) (fun _ _ _ _ _ => pe_slice (r := rSlT K) sl_tup (pv 12) (po_some (pe_int)) po_none)) (pe_lc (own := [("_law_told", 12)]) (g := gName 12) rfl nd (pi_list (pe_m0 m_Container_faults (hr.mono (by omega)) (pv 10))) (blkOk_by (N := N_law) (sc := defScope s_law) (own := [("_law_told", 12)]) (by decide +kernel)) (fun _ _ _ _ _ => pg_name (i := 12) nd rfl (Or.inl rfl)) (fun _ _ _ _ _ => pts_nil) (fun _ _ _ _ _ => pe_slice (r := rSlT K) sl_tup (pv 12) (po_some (pe_int)) po_none)) (nomark _))
        (pss_one (ps_ret (pe_bl)))
        (pss_nil))
      (pss_cons (ps_set (i := 11) nd rfl (Or.inl rfl) (pe_g g__law_returned (hr.mono (by omega)) (pa_cons (pv 8) (pa_cons (pe_g g_answers_of (hr.mono (by omega)) (pa_cons (pv 5) (pa_cons (pv 6) (pa_cons (pv 8) pa_nil)))) pa_nil))))
      (pss_one (ps_if (pt_cmpR (op_neD hr.units) (pv 11) (pe_g g_answers_of (hr.mono (by omega)) (pa_cons (pv 5) (pa_cons (pv 6) (pa_cons (pv 7) pa_nil)))) (nomark _))
        (pss_one (ps_ret (pe_bl)))
        (pss_nil)))))))))))))
    (pss_one (ps_ret (pe_bl)))), ?_⟩
    refine ⟨_, rfl, a, ns, rfl, ha, hka, hlen, fun H1 D wl cl s1 nD nW dr => ⟨_, rfl, ?_⟩⟩
    obtain ⟨n, hn, hn8⟩ : ∃ n : Nat, (2 : Int) + (if (6 : Int) < ((ns.map V.int).length : Nat) then (6 : Int) else (((ns.map V.int).length : Nat) : Int)) = (n : Nat) ∧ n ≤ 8 := by
      by_cases z : (6 : Int) < ((ns.map V.int).length : Nat)
      · exact ⟨8, by rw [if_pos z]; rfl, Nat.le_refl _⟩
      · exact ⟨2 + (ns.map V.int).length, by rw [if_neg z]; omega, by omega⟩
    refine ⟨_, _, rfl, .inl (hka H1 s1), _, _, rfl, _, _, rfl, rfl, (n : Nat), congrArg (fun z => [V.int z]) hn, by omega, by omega, ?_⟩
    refine for_range (lo := 0) (n := n) (fun i σ H' => ∃ vs : List (Option V), vs.length = 11 ∧ σ = some (.ref a) :: some (.ref D) :: vs ∧ DrawAt H' D wl cl (100000 + (n - i) * 500)) ?_ ?_ ?_
    · exact ⟨_, rfl, rfl, dr.less (by omega)⟩
    · rintro i σ H2 hi ⟨vs, hvs, rfl, dr2⟩
      match vs, hvs with
      | [v2, v3, v4, v5, v6, v7, v8, v9, v10, v11, v12], _ =>
        obtain ⟨b0, hb0⟩ : ∃ b0, b0 = 100000 + (n - (i + 1)) * 500 := ⟨_, rfl⟩
        refine ⟨_, rfl, D, wl, cl, b0 + 409, rfl, dr2.less (by omega), fun H3 F bl bk k3 nF hF hbl nbl bi dr3 => ?_⟩
        refine ⟨_, rfl, D, wl, cl, b0 + 408, 3, rfl, by decide, by decide, dr3.less (by omega), fun H4 v hv k4 dr4 => ⟨_, _, rfl, rfl, _, _, rfl, ?_⟩⟩
        refine ⟨_, rfl, by show 2 ≤ sizeLine; rw [sizeLine_eq]; decide, fun l hl => ?_⟩
        refine ⟨D, wl, cl, b0 + 407, l, [.str "same", .str "wait"], rfl, .inl ⟨upd_same, (dr4.fresh hl).2.1⟩, by simp, by decide, (dr4.mono (Same.new hl)).less (by omega), fun H5 x hx k5 dr5 => ?_⟩
        obtain ⟨nFD, nFW, _⟩ := dr2.fresh nF
        have hF5 : H5 F = some (.dK (bkD bk bl)) := k5 F _ nFD nFW (Same.new hl _ _ (k4 F _ nFD nFW hF))
        obtain ⟨wk, rfl, hwk⟩ : ∃ wk : Str, x = .str wk ∧ (wk = "same" ∨ wk = "wait") := by
          simp only [List.mem_cons, List.not_mem_nil, or_false] at hx
          rcases hx with rfl | rfl
          · exact ⟨_, rfl, .inl rfl⟩
          · exact ⟨_, rfl, .inr rfl⟩
        have hput : putK (bkD bk bl) (Sum.inr "works") (.str wk) = bkD { bk with works := wk } bl := rfl
        refine ⟨_, rfl, _, _, rfl, DPut.k (k := Sum.inr "works") hF5 (by show 6 < sizeLine; rw [sizeLine_eq]; decide), ?_⟩
        rw [hput]
        have s5 : H5 F ≠ none := by rw [hF5]; exact fun z => by cases z
        have bi6 : BkIn { bk with works := wk } := ⟨bi.m1, bi.m2, bi.m3, bi.m4, by rcases hwk with rfl | rfl <;> simp⟩
        have hb5 : H5 bl = some (.lst []) := k5 bl _ nbl.1 nbl.2 (Same.new hl _ _ (k4 bl _ nbl.1 nbl.2 hbl))
        have nbF : bl ≠ F := fun z => by rw [z, hF5] at hb5; cases hb5
        have hF6 : (upd H5 F (.dK (bkD { bk with works := wk } bl))) F = some (.dK (bkD { bk with works := wk } bl)) := upd_same
        have hb6 : (upd H5 F (.dK (bkD { bk with works := wk } bl))) bl = some (.lst []) := by rw [upd_ne nbF]; exact hb5
        have dr6 := dr5.put (o := .dK (bkD { bk with works := wk } bl)) nFD nFW (dr2.fresh nF).2.2
        generalize upd H5 F (.dK (bkD { bk with works := wk } bl)) = H6 at hF6 hb6 dr6 ⊢
        refine ⟨_, rfl, F, bl, { bk with works := wk }, rfl, hF6, hb6, bi6, fun H7 b dx tb s7 bkAt => ?_⟩
        have dr7 := dr6.mono s7
        refine ⟨_, rfl, _, rfl, _, rfl, D, wl, cl, b0 + 207, 1 + v, rfl, by omega, by omega, dr7.less (by omega), fun H8 d kvs L k8 nd8 hd8 hpr lo dr8 => ?_⟩
        refine ⟨1 + v, d, L, kvs, rfl, hd8, hpr, lo, fun H9 pa ys dx9 gd9 kvs9 s9 hperm pAt => ?_⟩
        obtain ⟨g, hg⟩ : ∃ g : Gam, g = ⟨b, pa, { bk with works := wk }, mkPM (1 + v) L ys⟩ := ⟨_, rfl⟩
        have hgb : g.b = b := by rw [hg]
        have hgp : g.pa = pa := by rw [hg]
        have hgd : g.M.depth = 1 + v := by rw [hg]; rfl
        have hgn : g.M.names.length ≤ 6 := by
          rw [hg]
          show ys.length ≤ 6
          rw [hperm.length_eq, List.length_map]
          exact lo.l6
        have bk8 : BookAt K H8 b { bk with works := wk } dx tb := by
          obtain ⟨n1, n2⟩ := dr7.apart bkAt.self (fun _ z => by cases z) (fun _ z => by cases z)
          obtain ⟨n3, n4⟩ := dr7.apart bkAt.bars (fun _ z => by cases z) (fun _ z => by cases z)
          exact ⟨k8 _ _ n1 n2 bkAt.self, k8 _ _ n3 n4 bkAt.bars⟩
        have st9 : Stat K H9 g := by
          rw [hg]
          exact ⟨⟨dx, tb, bk8.mono s9⟩, ⟨dx9, gd9, kvs9, pAt⟩, hwk, lo.pm hperm⟩
        have dr9 := dr8.mono s9
        clear hd8 hpr bk8 pAt hb6 hF6 hb5 hF5 bkAt
        refine ⟨_, _, rfl, _, rfl, _, rfl, _, rfl, _, rfl, g, D, wl, cl, b0, by rw [hgb, hgp, hgd]; rfl, st9, dr9, by omega, fun H10 Lh us ds k10 nL hL hds hleg hpl hlen dr10 => ?_⟩
        obtain ⟨e1, e2, e3, e4⟩ := law_as st9.mok ds Cor.zero 0 WF.zero rfl hpl hleg
        have hl2 : (asL 0 ds).length ≤ 60 := by have := asL_len ds 0; omega
        have hh1 : Hist g Q0 ds := hist0 st9.mok hleg (by omega)
        have hh2 : Hist g Q0 (asL 0 ds) := hist0 st9.mok e1 (by omega)
        have st10 : Stat K H10 g := st9.keep dr9 k10
        refine ⟨_, rfl, Lh, us, ds, rfl, hL, hds, by omega, fun L2 H11 us2 s11 n2 h2 hds2 => ?_⟩
        rw [asW_eq] at hds2
        have dr11 := dr10.mono s11
        have st11 := st10.mono s11
        have hL11 := s11 _ _ hL
        have hds11 := hds.mono (Same.tups s11)
        refine ⟨_, rfl, _, rfl, _, rfl, g, Lh, us, ds, by rw [hgb, hgp]; rfl, st11, hL11, hds11, hh1, by omega, fun A1 H12 c1 => ?_⟩
        have s12 := c1.same
        refine ⟨_, rfl, _, rfl, _, rfl, g, L2, us2, asL 0 ds, by rw [hgb, hgp]; rfl, st11.mono s12, s12 _ _ h2, hds2.mono (Same.tups s12), hh2, by omega, fun A2 H13 c2 => ?_⟩
        obtain ⟨S, hS⟩ : ∃ S, S = (endD g Q0 ds).1 := ⟨_, rfl⟩
        obtain ⟨W1, hW1⟩ : ∃ W, W = (endD g Q0 ds).2 := ⟨_, rfl⟩
        obtain ⟨W2, hW2⟩ : ∃ W, W = (endD g Q0 (asL 0 ds)).2 := ⟨_, rfl⟩
        have e2 : (endD g Q0 (asL 0 ds)).1 = (endD g Q0 ds).1 := e2
        have e3 : (endD g Q0 (asL 0 ds)).2.ws = [] := e3
        have e4 : retD (asL 0 ds) (ansD g Q0 (asL 0 ds)) = ansD g Q0 ds := e4
        obtain ⟨fok, wf⟩ := hist_fok st9.mok hleg WF.zero FOk.zero
        have hsz : sz (endD g Q0 ds).1 ≤ BIG := end_sz hh1 (by decide)
        have hsc : (endD g Q0 ds).1.scopes.length ≤ 1000 := by
          have h1 := scopes_le st9.mok hleg WF.zero
          have h2 : Q0.1.scopes.length = 1 := rfl
          omega
        rw [e2, ← hS, ← hW2] at c2
        rw [← hS, ← hW1] at c1
        rw [← hS] at fok wf hsz hsc
        rw [← hW2] at e3
        have c1g := c1.grow c2.same
        refine ⟨_, _, rfl, fun σ' H' => σ' = [some (.ref a), some (.ref D), some (.int (0 + (i : Nat))), some (.ref F), some (.int (1 + (v : Nat))), some (.ref b), some (.ref pa), some (.ref Lh), some (.ref L2), some (.ref (A1.a .self)), some (.ref (A2.a .self)), v11, v12] ∧ Same H13 H', ?_, ?_⟩
        · refine ⟨_, rfl, _, _, _, rfl, c1g.self, no_Container_things, g, _, A1, S, W1, rfl, c1g, wf, hsz, fun La Ha ua sa na ha pa_ => ?_⟩
          refine ⟨_, rfl, _, _, _, rfl, (c2.grow sa).self, no_Container_things, g, _, A2, S, W2, rfl, c2.grow sa, wf, hsz, fun Lb Hb ub sb nb hb pb => ?_⟩
          refine ⟨_, _, dp_list (sb _ _ ha) (dp_ths (Paired.mono (fun _ _ z => ThAt.mono sb z) pa_)), dp_list hb (dp_ths pb), tFine st9.mok wf, tFine st9.mok wf, ?_⟩
          rw [ne_same (tFine st9.mok wf)]
          have sab := sa.trans sb
          refine ⟨_, rfl, iteF ?_⟩
          refine ⟨_, rfl, _, _, _, rfl, (c1g.grow sab).self, g, _, A1, S, W1, rfl, c1g.grow sab, hsc, fun Dc Hc sc _ hc => ?_⟩
          refine ⟨_, rfl, _, _, _, rfl, (c2.grow (sab.trans sc)).self, g, _, A2, S, W2, rfl, c2.grow (sab.trans sc), hsc, fun Dd Hd sd _ hd => ?_⟩
          have sad := sab.trans (sc.trans sd)
          refine ⟨_, _, _, _, rfl, rfl, sd _ _ hc, hd, rfl, fun p hp => opN_mem hp, _, rfl, iteF ?_⟩
          refine ⟨_, rfl, _, _, _, rfl, (c2.grow sad).self, no_Container_waiting, g, _, A2, S, W2, rfl, c2.grow sad, e3, fun De He se _ he => ?_⟩
          intro Df hDf
          refine ⟨_, _, _, _, rfl, rfl, Same.new hDf _ _ he, upd_same, rfl, (fun p hp => nomatch hp), _, rfl, iteF ?_⟩
          exact ⟨rfl, sad.trans (se.trans (Same.new hDf))⟩
        · rintro σ' H14 ⟨rfl, s14⟩
          refine ⟨fun σ' H' => σ' = [some (.ref a), some (.ref D), some (.int (0 + (i : Nat))), some (.ref F), some (.int (1 + (v : Nat))), some (.ref b), some (.ref pa), some (.ref Lh), some (.ref L2), some (.ref (A1.a .self)), some (.ref (A2.a .self)), v11, v12] ∧ Same H13 H', ?_, ?_⟩
          · delta tIfS tTest tOp
            refine told_rd (m := 9) (c1g.grow s14) (Nat.le_trans (sz_faults S) hsz) (by rfl) fun La Ha ua sa na ha pa_ => ?_
            refine told_rd (m := 10) (c2.grow (s14.trans sa)) (Nat.le_trans (sz_faults S) hsz) (by rfl) fun Lb Hb ub sb nb hb pb => ?_
            refine ⟨_, _, dp_list (sb _ _ ha) (dp_cuts (Paired.mono (fun _ _ z => CutAt.mono (Same.tups sb) z) pa_)), dp_list hb (dp_cuts pb), fFine fok, fFine fok, ?_⟩
            rw [ne_same (fFine fok)]
            exact ⟨_, rfl, iteF ⟨rfl, s14.trans (sa.trans sb)⟩⟩
          · rintro σ' H15 ⟨rfl, s15⟩
            have s1115 := s12.trans (c2.same.trans s15)
            have st15 := st11.mono s1115
            refine ⟨_, rfl, _, rfl, _, rfl, _, rfl, g, L2, us2, asL 0 ds, by rw [hgb, hgp]; rfl, st15, s1115 _ _ h2, hds2.mono (Same.tups s1115), hh2, by omega, fun an1 H16 s16 ha1 => ?_⟩
            refine ⟨L2, us2, asL 0 ds, an1, _, rfl, (s1115.trans s16) _ _ h2, hds2.mono (Same.tups (s1115.trans s16)), ha1, by rw [ansD_len], by omega, fun Lr H17 s17 hr1 => ?_⟩
            rw [e4] at hr1
            have s1117 := (s1115.trans s16).trans s17
            refine ⟨_, rfl, _, rfl, _, rfl, _, rfl, g, Lh, us, ds, by rw [hgb, hgp]; rfl, st11.mono s1117, s1117 _ _ hL11, hds11.mono (Same.tups s1117), hh1, by omega, fun an2 H18 s18 ha2 => ?_⟩
            refine ⟨_, _, dp_list (s18 _ _ hr1) (dp_os K H18 _), dp_list ha2 (dp_os K H18 _), oFine _, oFine _, ?_⟩
            rw [ne_same (oFine _)]
            refine ⟨_, rfl, iteF ⟨_, rfl, rfl, ?_⟩⟩
            rw [← hb0]
            exact (dr11.mono (s1117.trans s18)).less (by omega)
    · rintro σ H2 ⟨vs, hvs, rfl, dr2⟩
      exact q H2
end
end K94
set_option maxHeartbeats 4000000
/-! the text of the top as facts, every bundle (printed by genhe.py) -/
namespace K94
open PySem PySem.Spec PyProof.Rows L2 StX
theorem ownB_ok {K : PySem.W.Frag} {x : Str} (h : ownB K x = true) : OwnC K (He.ga K x) := by
  obtain ⟨h1, h⟩ := He.ba h
  obtain ⟨h2, h⟩ := He.ba h
  obtain ⟨h3, h4⟩ := He.ba h
  exact ⟨He.eqO_ok h1, He.eqO_ok h2, of_decide_eq_true h3, of_decide_eq_true h4⟩
theorem hex_at {K : PySem.W.Frag} (h : hex K = true) (i : Nat) {b : Bool} (e : (hexs K)[i]? = some b := by rfl) : b = true := List.all_eq_true.mp h b (List.mem_of_getElem? e)
abbrev Says (w : World) (K : PySem.W.Frag) : Prop := SaysP hfa hfn hts hex hpg w K
theorem txt_of {w : World} {K : PySem.W.Frag} {h : Heap} {mg : Str → Option Value} (X : K.In h) (G : h.Ns mainGlobals mg) (c : Says w K) : Txt K mg where
  c_Book := He.cls_ok (c.t.d.fact 0 (f := .cls "Book") rfl)
  g_Book := He.glo_ok X G (c.t.d.fact 1 (f := .glo "Book") rfl)
  n_Book_b_held := He.noat_ok (c.t.d.fact 3 (f := .noat "Book" "b_held") rfl)
  n_Book_b_each := He.noat_ok (c.t.d.fact 4 (f := .noat "Book" "b_each") rfl)
  n_Book_b_lifted := He.noat_ok (c.t.d.fact 5 (f := .noat "Book" "b_lifted") rfl)
  n_Book_b_ends := He.noat_ok (c.t.d.fact 6 (f := .noat "Book" "b_ends") rfl)
  n_Book_b_works := He.noat_ok (c.t.d.fact 7 (f := .noat "Book" "b_works") rfl)
  n_Book_b_bars := He.noat_ok (c.t.d.fact 8 (f := .noat "Book" "b_bars") rfl)
  c_Container := He.cls_ok (c.t.d.fact 9 (f := .cls "Container") rfl)
  g_Container := He.glo_ok X G (c.t.d.fact 10 (f := .glo "Container") rfl)
  n_Container_c_book := He.noat_ok (c.t.d.fact 12 (f := .noat "Container" "c_book") rfl)
  n_Container_c_parts := He.noat_ok (c.t.d.fact 13 (f := .noat "Container" "c_parts") rfl)
  n_Container_c_scopes := He.noat_ok (c.t.d.fact 14 (f := .noat "Container" "c_scopes") rfl)
  n_Container_c_things := He.noat_ok (c.t.d.fact 15 (f := .noat "Container" "c_things") rfl)
  n_Container_c_kept := He.noat_ok (c.t.d.fact 16 (f := .noat "Container" "c_kept") rfl)
  n_Container_c_works := He.noat_ok (c.t.d.fact 17 (f := .noat "Container" "c_works") rfl)
  n_Container_c_put_off := He.noat_ok (c.t.d.fact 18 (f := .noat "Container" "c_put_off") rfl)
  n_Container_c_loose := He.noat_ok (c.t.d.fact 19 (f := .noat "Container" "c_loose") rfl)
  n_Container_c_left := He.noat_ok (c.t.d.fact 20 (f := .noat "Container" "c_left") rfl)
  n_Container_c_faults := He.noat_ok (c.t.d.fact 21 (f := .noat "Container" "c_faults") rfl)
  n_Container_c_deeds := He.noat_ok (c.t.d.fact 22 (f := .noat "Container" "c_deeds") rfl)
  c_Part := He.cls_ok (c.t.d.fact 23 (f := .cls "Part") rfl)
  g_Part := He.glo_ok X G (c.t.d.fact 24 (f := .glo "Part") rfl)
  n_Part_p_life := He.noat_ok (c.t.d.fact 26 (f := .noat "Part" "p_life") rfl)
  n_Part_p_wants := He.noat_ok (c.t.d.fact 27 (f := .noat "Part" "p_wants") rfl)
  c_Parts := He.cls_ok (c.t.d.fact 28 (f := .cls "Parts") rfl)
  g_Parts := He.glo_ok X G (c.t.d.fact 29 (f := .glo "Parts") rfl)
  n_Parts_g_depth := He.noat_ok (c.t.d.fact 31 (f := .noat "Parts" "g_depth") rfl)
  n_Parts_g_parts := He.noat_ok (c.t.d.fact 32 (f := .noat "Parts" "g_parts") rfl)
  c_Scope := He.cls_ok (c.t.d.fact 33 (f := .cls "Scope") rfl)
  g_Scope := He.glo_ok X G (c.t.d.fact 34 (f := .glo "Scope") rfl)
  n_Scope_level := He.noat_ok (c.t.d.fact 36 (f := .noat "Scope" "level") rfl)
  n_Scope_under := He.noat_ok (c.t.d.fact 37 (f := .noat "Scope" "under") rfl)
  n_Scope_alive := He.noat_ok (c.t.d.fact 38 (f := .noat "Scope" "alive") rfl)
  c_Thing := He.cls_ok (c.t.d.fact 39 (f := .cls "Thing") rfl)
  g_Thing := He.glo_ok X G (c.t.d.fact 40 (f := .glo "Thing") rfl)
  n_Thing_name := He.noat_ok (c.t.d.fact 42 (f := .noat "Thing" "name") rfl)
  n_Thing_home := He.noat_ok (c.t.d.fact 43 (f := .noat "Thing" "home") rfl)
  n_Thing_got := He.noat_ok (c.t.d.fact 44 (f := .noat "Thing" "got") rfl)
  n_Thing_ended := He.noat_ok (c.t.d.fact 45 (f := .noat "Thing" "ended") rfl)
  r_BARS := He.glo_ok X G (c.t.d.fact 46 (f := .glo "BARS") rfl)
  t_BARS := fun H => He.tupB_ok (x := "BARS") (vs := [.str "each-shorter", .str "each-use", .str "held-shorter", .str "held-use", .str "use-each", .str "use-held"]) (hex_at c.ex_ 0) H
  r_HELD_books := He.glo_ok X G (c.t.d.fact 47 (f := .glo "HELD_books") rfl)
  t_HELD_books := fun H => He.tupB_ok (x := "HELD_books") (vs := [.str "home", .str "now"]) (hex_at c.ex_ 1) H
  r_EACH_books := He.glo_ok X G (c.t.d.fact 48 (f := .glo "EACH_books") rfl)
  t_EACH_books := fun H => He.tupB_ok (x := "EACH_books") (vs := [.str "now", .str "program"]) (hex_at c.ex_ 2) H
  r_LIFTED := He.glo_ok X G (c.t.d.fact 49 (f := .glo "LIFTED") rfl)
  t_LIFTED := fun H => He.tupB_ok (x := "LIFTED") (vs := [.str "nothing", .str "kept"]) (hex_at c.ex_ 3) H
  r_ENDS := He.glo_ok X G (c.t.d.fact 50 (f := .glo "ENDS") rfl)
  t_ENDS := fun H => He.tupB_ok (x := "ENDS") (vs := [.str "holder", .str "never", .str "scope"]) (hex_at c.ex_ 4) H
  r_WORKS := He.glo_ok X G (c.t.d.fact 51 (f := .glo "WORKS") rfl)
  t_WORKS := fun H => He.tupB_ok (x := "WORKS") (vs := [.str "own", .str "same", .str "wait"]) (hex_at c.ex_ 5) H
  i_USE := He.int_ok X G (c.t.d.fact 52 (f := .int "USE" (-1)) rfl)
  i_MOST_LIFE := He.int_ok X G (c.t.d.fact 53 (f := .int "MOST_LIFE" (3)) rfl)
  i_MOST_DEPTH := He.int_ok X G (c.t.d.fact 54 (f := .int "MOST_DEPTH" (3)) rfl)
  i_MOST_PARTS := He.int_ok X G (c.t.d.fact 55 (f := .int "MOST_PARTS" (12)) rfl)
  i_LONGEST_NAME := He.int_ok X G (c.t.d.fact 56 (f := .int "LONGEST_NAME" (6)) rfl)
  s_LETTERS := He.str_ok X G (c.t.d.fact 57 (f := .str "LETTERS" "abcdefghijklmnopqrstuvwxyz") rfl)
  s_HELD_parts := He.str_ok X G (c.t.d.fact 58 (f := .str "HELD_parts" "held") rfl)
  s_EACH_parts := He.str_ok X G (c.t.d.fact 59 (f := .str "EACH_parts" "each") rfl)
  r_SIZES := He.glo_ok X G (c.t.d.fact 60 (f := .glo "SIZES") rfl)
  f_len := He.free_ok X G (c.t.d.fact 62 (f := .free "len") rfl)
  f_isinstance := He.free_ok X G (c.t.d.fact 63 (f := .free "isinstance") rfl)
  f_int := He.free_ok X G (c.t.d.fact 64 (f := .free "int") rfl)
  f_str := He.free_ok X G (c.t.d.fact 65 (f := .free "str") rfl)
  f_bool := He.free_ok X G (c.t.d.fact 66 (f := .free "bool") rfl)
  f_list := He.free_ok X G (c.t.d.fact 67 (f := .free "list") rfl)
  f_tuple := He.free_ok X G (c.t.d.fact 68 (f := .free "tuple") rfl)
  f_dict := He.free_ok X G (c.t.d.fact 69 (f := .free "dict") rfl)
  f_set := He.free_ok X G (c.t.d.fact 70 (f := .free "set") rfl)
  f_all := He.free_ok X G (c.t.d.fact 71 (f := .free "all") rfl)
  f_enumerate := He.free_ok X G (c.t.d.fact 72 (f := .free "enumerate") rfl)
  f_range := He.free_ok X G (c.t.d.fact 73 (f := .free "range") rfl)
  f_abs := He.free_ok X G (c.t.d.fact 74 (f := .free "abs") rfl)
  f_min := He.free_ok X G (c.t.d.fact 75 (f := .free "min") rfl)
  f_sorted := He.free_ok X G (c.t.d.fact 76 (f := .free "sorted") rfl)
  fk := fnk_ok (c.t.d.fact 114 (f := .meth "Parts" "__getitem__") rfl) (hex_at c.ex_ 9)
theorem szd_of {w : World} {K : PySem.W.Frag} (c : Says w K) : SzD K w where
  d := c.t.tab 0 (t := (fun K => He.ga K "SIZES", ["begin", "close", "ask", "use", "later", "run"])) rfl
  v := fun q hq => He.valsB_ok (hex_at c.ex_ 10) (q := (q.1, He.Dv.int q.2)) (List.mem_map_of_mem (f := fun q : Str × Int => ((q.1, He.Dv.int q.2) : Str × He.Dv)) hq)
section
variable {P : Program} {w : World} {K : PySem.W.Frag} {mg : Str → Option Value} {base : Heap} {f : Addr} {fd : FuncData}
theorem b_is_one_of (F : FnP K "is_one_of" "is_one_of" s_is_one_of f fd) : Binds K fd P_is_one_of [] := F.bindsN (ps := P_is_one_of) fun _ _ _ _ _ _ us hl => match us, hl with | [_, _], _ => rfl
theorem b_are_bars (F : FnP K "are_bars" "are_bars" s_are_bars f fd) : Binds K fd P_are_bars [] := F.bindsN (ps := P_are_bars) fun _ _ _ _ _ _ us hl => match us, hl with | [_], _ => rfl
theorem b_need_field (F : FnP K "need_field" "need_field" s_need_field f fd) : Binds K fd P_need_field [] := F.bindsN (ps := P_need_field) fun _ _ _ _ _ _ us hl => match us, hl with | [_, _, _], _ => rfl
theorem b_need_book (F : FnP K "need_book" "need_book" s_need_book f fd) : Binds K fd P_need_book [] := F.bindsN (ps := P_need_book) fun _ _ _ _ _ _ us hl => match us, hl with | [_], _ => rfl
theorem b_is_number (F : FnP K "is_number" "is_number" s_is_number f fd) : Binds K fd P_is_number [] := F.bindsN (ps := P_is_number) fun _ _ _ _ _ _ us hl => match us, hl with | [_], _ => rfl
theorem b_is_part_name (F : FnP K "is_part_name" "is_part_name" s_is_part_name f fd) : Binds K fd P_is_part_name [] := F.bindsN (ps := P_is_part_name) fun _ _ _ _ _ _ us hl => match us, hl with | [_], _ => rfl
theorem b_is_want (F : FnP K "is_want" "is_want" s_is_want f fd) : Binds K fd P_is_want [] := F.bindsN (ps := P_is_want) fun _ _ _ _ _ _ us hl => match us, hl with | [_], _ => rfl
theorem b_are_wants (F : FnP K "are_wants" "are_wants" s_are_wants f fd) : Binds K fd P_are_wants [] := F.bindsN (ps := P_are_wants) fun _ _ _ _ _ _ us hl => match us, hl with | [_], _ => rfl
theorem b_are_named (F : FnP K "are_named" "are_named" s_are_named f fd) : Binds K fd P_are_named [] := F.bindsN (ps := P_are_named) fun _ _ _ _ _ _ us hl => match us, hl with | [_], _ => rfl
theorem b_is_fitting (F : FnP K "is_fitting" "is_fitting" s_is_fitting f fd) : Binds K fd P_is_fitting [] := F.bindsN (ps := P_is_fitting) fun _ _ _ _ _ _ us hl => match us, hl with | [_, _, _], _ => rfl
theorem b_wanted_by (F : FnP K "wanted_by" "wanted_by" s_wanted_by f fd) : Binds K fd P_wanted_by [] := F.bindsN (ps := P_wanted_by) fun _ _ _ _ _ _ us hl => match us, hl with | [_, _], _ => rfl
theorem b_need_parts (F : FnP K "need_parts" "need_parts" s_need_parts f fd) : Binds K fd P_need_parts [] := F.bindsN (ps := P_need_parts) fun _ _ _ _ _ _ us hl => match us, hl with | [_], _ => rfl
theorem b_need_part (F : FnP K "need_part" "need_part" s_need_part f fd) : Binds K fd P_need_part [] := F.bindsN (ps := P_need_part) fun _ _ _ _ _ _ us hl => match us, hl with | [_, _], _ => rfl
theorem b_bar_of (F : FnP K "bar_of" "bar_of" s_bar_of f fd) : Binds K fd P_bar_of [] := F.bindsN (ps := P_bar_of) fun _ _ _ _ _ _ us hl => match us, hl with | [_, _, _], _ => rfl
theorem b_broken_bars (F : FnP K "broken_bars" "broken_bars" s_broken_bars f fd) : Binds K fd P_broken_bars [] := F.bindsN (ps := P_broken_bars) fun _ _ _ _ _ _ us hl => match us, hl with | [_], _ => rfl
theorem b_is_deed (F : FnP K "is_deed" "is_deed" s_is_deed f fd) : Binds K fd P_is_deed [] := F.bindsN (ps := P_is_deed) fun _ _ _ _ _ _ us hl => match us, hl with | [_], _ => rfl
theorem b_played (F : FnP K "played" "played" s_played f fd) : Binds K fd P_played [] := F.bindsN (ps := P_played) fun _ _ _ _ _ _ us hl => match us, hl with | [_, _, _], _ => rfl
theorem b_replayed (F : FnP K "replayed" "replayed" s_replayed f fd) : Binds K fd P_replayed [] := F.bindsN (ps := P_replayed) fun _ _ _ _ _ _ us hl => match us, hl with | [_, _, _], _ => rfl
theorem b_answers_of (F : FnP K "answers_of" "answers_of" s_answers_of f fd) : Binds K fd P_answers_of [] := F.bindsN (ps := P_answers_of) fun _ _ _ _ _ _ us hl => match us, hl with | [_, _, _], _ => rfl
theorem b__law_begun (F : FnP K "_law_begun" "_law_begun" s__law_begun f fd) : Binds K fd P__law_begun [] := F.bindsN (ps := P__law_begun) fun _ _ _ _ _ _ us hl => match us, hl with | [_], _ => rfl
theorem b__law_mixed (F : FnP K "_law_mixed" "_law_mixed" s__law_mixed f fd) : Binds K fd P__law_mixed [] := F.bindsN (ps := P__law_mixed) fun _ _ _ _ _ _ us hl => match us, hl with | [_], _ => rfl
theorem b__law_take (F : FnP K "_law_take" "_law_take" s__law_take f fd) : Binds K fd P__law_take [] := F.bindsN (ps := P__law_take) fun _ _ _ _ _ _ us hl => match us, hl with | [_, _], _ => rfl
theorem b__law_pick (F : FnP K "_law_pick" "_law_pick" s__law_pick f fd) : Binds K fd P__law_pick [] := F.bindsN (ps := P__law_pick) fun _ _ _ _ _ _ us hl => match us, hl with | [_, _], _ => rfl
theorem b__law_shuffled (F : FnP K "_law_shuffled" "_law_shuffled" s__law_shuffled f fd) : Binds K fd P__law_shuffled [] := F.bindsN (ps := P__law_shuffled) fun _ _ _ _ _ _ us hl => match us, hl with | [_, _], _ => rfl
theorem b__law_drawn_fields (F : FnP K "_law_drawn_fields" "_law_drawn_fields" s__law_drawn_fields f fd) : Binds K fd P__law_drawn_fields [] := F.bindsN (ps := P__law_drawn_fields) fun _ _ _ _ _ _ us hl => match us, hl with | [_], _ => rfl
theorem b__law_book (F : FnP K "_law_book" "_law_book" s__law_book f fd) : Binds K fd P__law_book [] := F.bindsN (ps := P__law_book) fun _ _ _ _ _ _ us hl => match us, hl with | [_], _ => rfl
theorem b__law_parts (F : FnP K "_law_parts" "_law_parts" s__law_parts f fd) : Binds K fd P__law_parts [] := F.bindsN (ps := P__law_parts) fun _ _ _ _ _ _ us hl => match us, hl with | [_, _], _ => rfl
theorem b__law_begun_deeds (F : FnP K "_law_begun_deeds" "_law_begun_deeds" s__law_begun_deeds f fd) : Binds K fd P__law_begun_deeds [] := F.bindsN (ps := P__law_begun_deeds) fun _ _ _ _ _ _ us hl => match us, hl with | [_, _], _ => rfl
theorem b__law_small_parts (F : FnP K "_law_small_parts" "_law_small_parts" s__law_small_parts f fd) : Binds K fd P__law_small_parts [] := F.bindsN (ps := P__law_small_parts) fun _ _ _ _ _ _ us hl => match us, hl with | [_, _, _], _ => rfl
theorem b__law_shop_deed (F : FnP K "_law_shop_deed" "_law_shop_deed" s__law_shop_deed f fd) : Binds K fd P__law_shop_deed [] := F.bindsN (ps := P__law_shop_deed) fun _ _ _ _ _ _ us hl => match us, hl with | [_, _, _, _], _ => rfl
theorem b__law_level (F : FnP K "_law_level" "_law_level" s__law_level f fd) : Binds K fd P__law_level [] := F.bindsN (ps := P__law_level) fun _ _ _ _ _ _ us hl => match us, hl with | [_, _], _ => rfl
theorem b__law_deeds (F : FnP K "_law_deeds" "_law_deeds" s__law_deeds f fd) : Binds K fd P__law_deeds [] := F.bindsN (ps := P__law_deeds) fun _ _ _ _ _ _ us hl => match us, hl with | [_, _, _, _], _ => rfl
theorem b__law_as_works (F : FnP K "_law_as_works" "_law_as_works" s__law_as_works f fd) : Binds K fd P__law_as_works [] := F.bindsN (ps := P__law_as_works) fun _ _ _ _ _ _ us hl => match us, hl with | [_], _ => rfl
theorem b__law_returned (F : FnP K "_law_returned" "_law_returned" s__law_returned f fd) : Binds K fd P__law_returned [] := F.bindsN (ps := P__law_returned) fun _ _ _ _ _ _ us hl => match us, hl with | [_, _], _ => rfl
theorem b_law (F : FnP K "law" "law" s_law f fd) : Binds K fd P_law [] := F.bindsN (ps := P_law) fun _ _ _ _ _ _ us hl => match us, hl with | [_], _ => rfl
theorem b_Parts___init__ (F : FnP K "__init__" "Parts.__init__" s_Parts___init__ f fd) : Binds K fd P_Parts___init__ [] := F.bindsN (ps := P_Parts___init__) fun _ _ _ _ _ _ us hl => match us, hl with | [_, _, _], _ => rfl
theorem b_Parts_names (F : FnP K "names" "Parts.names" s_Parts_names f fd) : Binds K fd P_Parts_names [] := F.bindsN (ps := P_Parts_names) fun _ _ _ _ _ _ us hl => match us, hl with | [_], _ => rfl
theorem b_Parts___contains__ (F : FnP K "__contains__" "Parts.__contains__" s_Parts___contains__ f fd) : Binds K fd P_Parts___contains__ [] := F.bindsN (ps := P_Parts___contains__) fun _ _ _ _ _ _ us hl => match us, hl with | [_, _], _ => rfl
theorem b_Parts___getitem__ (F : FnP K "__getitem__" "Parts.__getitem__" s_Parts___getitem__ f fd) : Binds K fd P_Parts___getitem__ [] := F.bindsN (ps := P_Parts___getitem__) fun _ _ _ _ _ _ us hl => match us, hl with | [_, _], _ => rfl
theorem b_Scope___init__ (F : FnP K "__init__" "Scope.__init__" s_Scope___init__ f fd) : Binds K fd P_Scope___init__ [] := F.bindsN (ps := P_Scope___init__) fun _ _ _ _ _ _ us hl => match us, hl with | [_, _, _], _ => rfl
theorem b_Thing___init__ (F : FnP K "__init__" "Thing.__init__" s_Thing___init__ f fd) : Binds K fd P_Thing___init__ [] := F.bindsN (ps := P_Thing___init__) fun _ _ _ _ _ _ us hl => match us, hl with | [_, _, _], _ => rfl
theorem b_Container___init__ (F : FnP K "__init__" "Container.__init__" s_Container___init__ f fd) : Binds K fd P_Container___init__ [] := F.bindsN (ps := P_Container___init__) fun _ _ _ _ _ _ us hl => match us, hl with | [_, _, _], _ => rfl
theorem b_Container_faults (F : FnP K "faults" "Container.faults" s_Container_faults f fd) : Binds K fd P_Container_faults [] := F.bindsN (ps := P_Container_faults) fun _ _ _ _ _ _ us hl => match us, hl with | [_], _ => rfl
theorem b_Container_things (F : FnP K "things" "Container.things" s_Container_things f fd) : Binds K fd P_Container_things [] := F.bindsN (ps := P_Container_things) fun _ _ _ _ _ _ us hl => match us, hl with | [_], _ => rfl
theorem b_Container_waiting (F : FnP K "waiting" "Container.waiting" s_Container_waiting f fd) : Binds K fd P_Container_waiting [] := F.bindsN (ps := P_Container_waiting) fun _ _ _ _ _ _ us hl => match us, hl with | [_], _ => rfl
theorem b_Container_is_open (F : FnP K "is_open" "Container.is_open" s_Container_is_open f fd) : Binds K fd P_Container_is_open [] := F.bindsN (ps := P_Container_is_open) fun _ _ _ _ _ _ us hl => match us, hl with | [_, _], _ => rfl
theorem b_Container_need_request (F : FnP K "need_request" "Container.need_request" s_Container_need_request f fd) : Binds K fd P_Container_need_request [] := F.bindsN (ps := P_Container_need_request) fun _ _ _ _ _ _ us hl => match us, hl with | [_, _], _ => rfl
theorem b_Container_ancestor (F : FnP K "ancestor" "Container.ancestor" s_Container_ancestor f fd) : Binds K fd P_Container_ancestor [] := F.bindsN (ps := P_Container_ancestor) fun _ _ _ _ _ _ us hl => match us, hl with | [_, _, _], _ => rfl
theorem b_Container_place_of (F : FnP K "place_of" "Container.place_of" s_Container_place_of f fd) : Binds K fd P_Container_place_of [] := F.bindsN (ps := P_Container_place_of) fun _ _ _ _ _ _ us hl => match us, hl with | [_, _, _], _ => rfl
theorem b_Container_get (F : FnP K "get" "Container.get" s_Container_get f fd) : Binds K fd P_Container_get [] := F.bindsN (ps := P_Container_get) fun _ _ _ _ _ _ us hl => match us, hl with | [_, _, _, _, _], _ => rfl
theorem b_Container_make (F : FnP K "make" "Container.make" s_Container_make f fd) : Binds K fd P_Container_make [] := F.bindsN (ps := P_Container_make) fun _ _ _ _ _ _ us hl => match us, hl with | [_, _, _, _, _], _ => rfl
theorem b_Container_wanted (F : FnP K "wanted" "Container.wanted" s_Container_wanted f fd) : Binds K fd P_Container_wanted [] := F.bindsN (ps := P_Container_wanted) fun _ _ _ _ _ _ us hl => match us, hl with | [_, _, _, _, _, _], _ => rfl
theorem b_Container_use_thing (F : FnP K "use_thing" "Container.use_thing" s_Container_use_thing f fd) : Binds K fd P_Container_use_thing [] := F.bindsN (ps := P_Container_use_thing) fun _ _ _ _ _ _ us hl => match us, hl with | [_, _, _, _], _ => rfl
theorem b_Container_let_loose (F : FnP K "let_loose" "Container.let_loose" s_Container_let_loose f fd) : Binds K fd P_Container_let_loose [] := F.bindsN (ps := P_Container_let_loose) fun _ _ _ _ _ _ us hl => match us, hl with | [_, _], _ => rfl
theorem b_Container_end_thing (F : FnP K "end_thing" "Container.end_thing" s_Container_end_thing f fd) : Binds K fd P_Container_end_thing [] := F.bindsN (ps := P_Container_end_thing) fun _ _ _ _ _ _ us hl => match us, hl with | [_, _], _ => rfl
theorem b_Container_shut (F : FnP K "shut" "Container.shut" s_Container_shut f fd) : Binds K fd P_Container_shut [] := F.bindsN (ps := P_Container_shut) fun _ _ _ _ _ _ us hl => match us, hl with | [_, _], _ => rfl
theorem b_Container_is_quiet (F : FnP K "is_quiet" "Container.is_quiet" s_Container_is_quiet f fd) : Binds K fd P_Container_is_quiet [] := F.bindsN (ps := P_Container_is_quiet) fun _ _ _ _ _ _ us hl => match us, hl with | [_], _ => rfl
theorem b_Container_attached (F : FnP K "attached" "Container.attached" s_Container_attached f fd) : Binds K fd P_Container_attached [] := F.bindsN (ps := P_Container_attached) fun _ _ _ _ _ _ us hl => match us, hl with | [_], _ => rfl
theorem b_Container_finish (F : FnP K "finish" "Container.finish" s_Container_finish f fd) : Binds K fd P_Container_finish [] := F.bindsN (ps := P_Container_finish) fun _ _ _ _ _ _ us hl => match us, hl with | [_], _ => rfl
theorem b_Container_begin (F : FnP K "begin" "Container.begin" s_Container_begin f fd) : Binds K fd P_Container_begin [] := F.bindsN (ps := P_Container_begin) fun _ _ _ _ _ _ us hl => match us, hl with | [_, _], _ => rfl
theorem b_Container_opened (F : FnP K "opened" "Container.opened" s_Container_opened f fd) : Binds K fd P_Container_opened [] := F.bindsN (ps := P_Container_opened) fun _ _ _ _ _ _ us hl => match us, hl with | [_, _], _ => rfl
theorem b_Container_close (F : FnP K "close" "Container.close" s_Container_close f fd) : Binds K fd P_Container_close [] := F.bindsN (ps := P_Container_close) fun _ _ _ _ _ _ us hl => match us, hl with | [_, _], _ => rfl
theorem b_Container_ask (F : FnP K "ask" "Container.ask" s_Container_ask f fd) : Binds K fd P_Container_ask [] := F.bindsN (ps := P_Container_ask) fun _ _ _ _ _ _ us hl => match us, hl with | [_, _, _], _ => rfl
theorem b_Container_use (F : FnP K "use" "Container.use" s_Container_use f fd) : Binds K fd P_Container_use [] := F.bindsN (ps := P_Container_use) fun _ _ _ _ _ _ us hl => match us, hl with | [_, _, _], _ => rfl
theorem b_Container_later (F : FnP K "later" "Container.later" s_Container_later f fd) : Binds K fd P_Container_later [] := F.bindsN (ps := P_Container_later) fun _ _ _ _ _ _ us hl => match us, hl with | [_, _, _], _ => rfl
theorem b_Container_run (F : FnP K "run" "Container.run" s_Container_run f fd) : Binds K fd P_Container_run [] := F.bindsN (ps := P_Container_run) fun _ _ _ _ _ _ us hl => match us, hl with | [_, _], _ => rfl
theorem b_Container_do (F : FnP K "do" "Container.do" s_Container_do f fd) : Binds K fd P_Container_do [] := F.bindsN (ps := P_Container_do) fun _ _ _ _ _ _ us hl => match us, hl with | [_, _], _ => rfl
theorem b_Container_answer (F : FnP K "answer" "Container.answer" s_Container_answer f fd) : Binds K fd P_Container_answer [] := F.bindsN (ps := P_Container_answer) fun _ _ _ _ _ _ us hl => match us, hl with | [_, _], _ => rfl
theorem b_Book_held (F : FnP K "held" "Book.held" s_Book_held f fd) : Binds K fd P_Book_held [] := F.bindsN (ps := P_Book_held) fun _ _ _ _ _ _ us hl => match us, hl with | [_], _ => rfl
theorem b_Book_each (F : FnP K "each" "Book.each" s_Book_each f fd) : Binds K fd P_Book_each [] := F.bindsN (ps := P_Book_each) fun _ _ _ _ _ _ us hl => match us, hl with | [_], _ => rfl
theorem b_Book_lifted (F : FnP K "lifted" "Book.lifted" s_Book_lifted f fd) : Binds K fd P_Book_lifted [] := F.bindsN (ps := P_Book_lifted) fun _ _ _ _ _ _ us hl => match us, hl with | [_], _ => rfl
theorem b_Book_ends (F : FnP K "ends" "Book.ends" s_Book_ends f fd) : Binds K fd P_Book_ends [] := F.bindsN (ps := P_Book_ends) fun _ _ _ _ _ _ us hl => match us, hl with | [_], _ => rfl
theorem b_Book_works (F : FnP K "works" "Book.works" s_Book_works f fd) : Binds K fd P_Book_works [] := F.bindsN (ps := P_Book_works) fun _ _ _ _ _ _ us hl => match us, hl with | [_], _ => rfl
theorem b_Book_bars (F : FnP K "bars" "Book.bars" s_Book_bars f fd) : Binds K fd P_Book_bars [] := F.bindsN (ps := P_Book_bars) fun _ _ _ _ _ _ us hl => match us, hl with | [_], _ => rfl
theorem b_Part_life (F : FnP K "life" "Part.life" s_Part_life f fd) : Binds K fd P_Part_life [] := F.bindsN (ps := P_Part_life) fun _ _ _ _ _ _ us hl => match us, hl with | [_], _ => rfl
theorem b_Part_wants (F : FnP K "wants" "Part.wants" s_Part_wants f fd) : Binds K fd P_Part_wants [] := F.bindsN (ps := P_Part_wants) fun _ _ _ _ _ _ us hl => match us, hl with | [_], _ => rfl
theorem b_Parts_depth (F : FnP K "depth" "Parts.depth" s_Parts_depth f fd) : Binds K fd P_Parts_depth [] := F.bindsN (ps := P_Parts_depth) fun _ _ _ _ _ _ us hl => match us, hl with | [_], _ => rfl
theorem b_Container_book (F : FnP K "book" "Container.book" s_Container_book f fd) : Binds K fd P_Container_book [] := F.bindsN (ps := P_Container_book) fun _ _ _ _ _ _ us hl => match us, hl with | [_], _ => rfl
theorem b_Container_parts (F : FnP K "parts" "Container.parts" s_Container_parts f fd) : Binds K fd P_Container_parts [] := F.bindsN (ps := P_Container_parts) fun _ _ _ _ _ _ us hl => match us, hl with | [_], _ => rfl
theorem b_Container_scopes (F : FnP K "scopes" "Container.scopes" s_Container_scopes f fd) : Binds K fd P_Container_scopes [] := F.bindsN (ps := P_Container_scopes) fun _ _ _ _ _ _ us hl => match us, hl with | [_], _ => rfl
theorem pr_of {x m g' : Str} {st : Stmt} {N : List Str} {C pp g : Addr} {p1 p2 p3 : Pos} (q : PropOf K C m pp g) (F : FnP K m x st g fd) (S : FnScope N ["self"] (defScope st)) (hN : N[0]? = some ("self" : Str)) (hb : defBody st = [.Return (some (.Attribute (.Name "self" p1) g' p2)) p3]) (c : Cls K C) (n : NoAttr K C g') (b : Binds K fd ["self"] []) : PR P w K mg base C m g' := by
  obtain ⟨oc, od, dV, kV, doc, pm, an, cdv, ct, osl, rfl, lk, hcd, hD, hK⟩ := F.ex
  exact ⟨pp, g, _, fn_getter lk hcd S hN hb c n, c, q, b⟩
theorem get0 (F : FnP K "get" "Container.get" s_Container_get f fd) : FnOk P w K mg base CX0 1 f fd P_Container_get (spGet K 0) :=
  okD F sc_Container_get (fun vs H Q E h => by obtain ⟨_, _, _, _, _, _, _, _, _, _, _, _, _, _, z, _⟩ := h; exact absurd z (Nat.not_lt_zero _)) (fun cdv A outer s H vs Q E hr h => by obtain ⟨_, _, _, _, _, _, _, _, _, _, _, _, _, _, z, _⟩ := h; exact absurd z (Nat.not_lt_zero _))
theorem use0 (F : FnP K "use_thing" "Container.use_thing" s_Container_use_thing f fd) : FnOk P w K mg base CX0 1 f fd P_Container_use_thing (spUse K 0) :=
  okD F sc_Container_use_thing (fun vs H Q E h => by obtain ⟨_, _, _, _, _, _, _, _, _, _, _, _, _, _, _, _, z, _⟩ := h; exact absurd z (Nat.not_lt_zero _)) (fun cdv A outer s H vs Q E hr h => by obtain ⟨_, _, _, _, _, _, _, _, _, _, _, _, _, _, _, _, z, _⟩ := h; exact absurd z (Nat.not_lt_zero _))
theorem end0 (F : FnP K "end_thing" "Container.end_thing" s_Container_end_thing f fd) : FnOk P w K mg base CX0 1 f fd P_Container_end_thing (spEnd K 0) :=
  okD F sc_Container_end_thing (fun vs H Q E h => by obtain ⟨_, _, _, _, _, _, _, _, _, _, _, z, _⟩ := h; exact absurd z (Nat.not_lt_zero _)) (fun cdv A outer s H vs Q E hr h => by obtain ⟨_, _, _, _, _, _, _, _, _, _, _, z, _⟩ := h; exact absurd z (Nat.not_lt_zero _))
theorem b_Part_init {dvs : List V} (hd : dvs.length = 1) (F : FunD K "__init__" "Part.__init__" (defArgs s_Part___init__) (defBody s_Part___init__) (defScope s_Part___init__) dvs [] f fd) : Binds K fd P_Part___init__ [] := by
  obtain ⟨ds, hv, b⟩ := F.binds1 (ps := P_Part___init__) 3 1 (fun z => by rw [z] at hd; cases hd) (by rw [hd]; rfl) (fun T kV doc pm an cdv ct us its hl hi => match us, its, hl, hi with
    | [_, _, _], its, _, hi => by
      rw [hd] at hi
      match its, hi with
      | [_], _ => exact ⟨_, rfl, rfl⟩)
  have e : dvs.drop 1 = [] := List.drop_eq_nil_of_le (by omega)
  rw [e] at hv
  cases hv
  exact b
theorem b_Book_init {kws : List (Str × V)} (hk : kws ≠ []) (F : FunD K "__init__" "Book.__init__" (defArgs s_Book___init__) (defBody s_Book___init__) (defScope s_Book___init__) [] kws f fd) :
    ∃ g : List Value → List Value → List Value, KBn K fd P_Book___init__ 1 ["held", "each", "lifted", "ends", "works", "bars"] g (fun vs zs => vs ++ zs) := by
  obtain ⟨mv, b⟩ := F.kbinds0 (ps := P_Book___init__) 1 ["held", "each", "lifted", "ends", "works", "bars"] [] (fun vs _ zs => vs ++ zs) hk (fun _ z => nomatch z) (fun a _ b => a.append b) (fun D doc pm an cdv ct us mv ws h1 h2 h3 => match us, mv, ws, h1, h2, h3 with
    | [_], [], [_, _, _, _, _, _], _, _, _ => rfl)
  exact ⟨_, b⟩
end
theorem law_of {P : Program} {w : World} {K : PySem.W.Frag} {h : Heap} {mg : Str → Option Value} (X : K.In h) (G : h.Ns mainGlobals mg) (c : Says w K) : ∃ fd : FuncData, (∀ (s : Shared) (v : Value), BindsTo s fd ⟨[v], []⟩ [("_law_script", v)]) ∧ ∀ base : Heap, FnOk P w K mg base CX0 40 (He.ga K "law") fd P_law (spLaw K) := by
  obtain ⟨fd_law, F_law⟩ : ∃ fd, FunD K "law" "law" (defArgs s_law) (defBody s_law) (defScope s_law) [] [] (He.fAd K ("law", none)) fd := c.t.d.def_ 34 (d := dd ("law", none) "law" "law" s_law) rfl
  refine ⟨_, fun s v => FunD.bindsA (ps := P_law) F_law (fun _ _ _ _ _ _ us hl => match us, hl with | [_], _ => rfl) s [v] rfl, fun base => ?_⟩
  have T := txt_of X G c
  have Z := szd_of c
  have OBook : OwnC K (CBook K) := ownB_ok (hex_at c.ex_ 6)
  have OPart : OwnC K (CPart K) := ownB_ok (hex_at c.ex_ 7)
  have OParts : OwnC K (CParts K) := ownB_ok (hex_at c.ex_ 8)
  have tLE : ∃ c, mg "LifeError" = some c := ⟨_, He.glo_ok X G (c.t.d.fact 61 (f := .glo "LifeError") rfl)⟩
  obtain ⟨q_Book_held, fd_Book_held, F_Book_held⟩ : PropOf K (CBook K) "held" (He.ma K (CBook K) "held") (pgA K "Book" "held") ∧ ∃ fd, FnP K "held" "Book.held" s_Book_held (pgA K "Book" "held") fd := c.pg_ 0 (p := ⟨"Book", "held", dd ("Book", some "held") "held" "Book.held" s_Book_held⟩) rfl
  have p_Book_held : PR P w K mg base (CBook K) "held" "b_held" := pr_of (st := s_Book_held) q_Book_held F_Book_held sc_Book_held rfl rfl T.c_Book T.n_Book_b_held (b_Book_held F_Book_held)
  obtain ⟨q_Book_each, fd_Book_each, F_Book_each⟩ : PropOf K (CBook K) "each" (He.ma K (CBook K) "each") (pgA K "Book" "each") ∧ ∃ fd, FnP K "each" "Book.each" s_Book_each (pgA K "Book" "each") fd := c.pg_ 1 (p := ⟨"Book", "each", dd ("Book", some "each") "each" "Book.each" s_Book_each⟩) rfl
  have p_Book_each : PR P w K mg base (CBook K) "each" "b_each" := pr_of (st := s_Book_each) q_Book_each F_Book_each sc_Book_each rfl rfl T.c_Book T.n_Book_b_each (b_Book_each F_Book_each)
  obtain ⟨q_Book_lifted, fd_Book_lifted, F_Book_lifted⟩ : PropOf K (CBook K) "lifted" (He.ma K (CBook K) "lifted") (pgA K "Book" "lifted") ∧ ∃ fd, FnP K "lifted" "Book.lifted" s_Book_lifted (pgA K "Book" "lifted") fd := c.pg_ 2 (p := ⟨"Book", "lifted", dd ("Book", some "lifted") "lifted" "Book.lifted" s_Book_lifted⟩) rfl
  have p_Book_lifted : PR P w K mg base (CBook K) "lifted" "b_lifted" := pr_of (st := s_Book_lifted) q_Book_lifted F_Book_lifted sc_Book_lifted rfl rfl T.c_Book T.n_Book_b_lifted (b_Book_lifted F_Book_lifted)
  obtain ⟨q_Book_ends, fd_Book_ends, F_Book_ends⟩ : PropOf K (CBook K) "ends" (He.ma K (CBook K) "ends") (pgA K "Book" "ends") ∧ ∃ fd, FnP K "ends" "Book.ends" s_Book_ends (pgA K "Book" "ends") fd := c.pg_ 3 (p := ⟨"Book", "ends", dd ("Book", some "ends") "ends" "Book.ends" s_Book_ends⟩) rfl
  have p_Book_ends : PR P w K mg base (CBook K) "ends" "b_ends" := pr_of (st := s_Book_ends) q_Book_ends F_Book_ends sc_Book_ends rfl rfl T.c_Book T.n_Book_b_ends (b_Book_ends F_Book_ends)
  obtain ⟨q_Book_works, fd_Book_works, F_Book_works⟩ : PropOf K (CBook K) "works" (He.ma K (CBook K) "works") (pgA K "Book" "works") ∧ ∃ fd, FnP K "works" "Book.works" s_Book_works (pgA K "Book" "works") fd := c.pg_ 4 (p := ⟨"Book", "works", dd ("Book", some "works") "works" "Book.works" s_Book_works⟩) rfl
  have p_Book_works : PR P w K mg base (CBook K) "works" "b_works" := pr_of (st := s_Book_works) q_Book_works F_Book_works sc_Book_works rfl rfl T.c_Book T.n_Book_b_works (b_Book_works F_Book_works)
  obtain ⟨q_Book_bars, fd_Book_bars, F_Book_bars⟩ : PropOf K (CBook K) "bars" (He.ma K (CBook K) "bars") (pgA K "Book" "bars") ∧ ∃ fd, FnP K "bars" "Book.bars" s_Book_bars (pgA K "Book" "bars") fd := c.pg_ 5 (p := ⟨"Book", "bars", dd ("Book", some "bars") "bars" "Book.bars" s_Book_bars⟩) rfl
  have p_Book_bars : PR P w K mg base (CBook K) "bars" "b_bars" := pr_of (st := s_Book_bars) q_Book_bars F_Book_bars sc_Book_bars rfl rfl T.c_Book T.n_Book_b_bars (b_Book_bars F_Book_bars)
  obtain ⟨q_Part_life, fd_Part_life, F_Part_life⟩ : PropOf K (CPart K) "life" (He.ma K (CPart K) "life") (pgA K "Part" "life") ∧ ∃ fd, FnP K "life" "Part.life" s_Part_life (pgA K "Part" "life") fd := c.pg_ 6 (p := ⟨"Part", "life", dd ("Part", some "life") "life" "Part.life" s_Part_life⟩) rfl
  have p_Part_life : PR P w K mg base (CPart K) "life" "p_life" := pr_of (st := s_Part_life) q_Part_life F_Part_life sc_Part_life rfl rfl T.c_Part T.n_Part_p_life (b_Part_life F_Part_life)
  obtain ⟨q_Part_wants, fd_Part_wants, F_Part_wants⟩ : PropOf K (CPart K) "wants" (He.ma K (CPart K) "wants") (pgA K "Part" "wants") ∧ ∃ fd, FnP K "wants" "Part.wants" s_Part_wants (pgA K "Part" "wants") fd := c.pg_ 7 (p := ⟨"Part", "wants", dd ("Part", some "wants") "wants" "Part.wants" s_Part_wants⟩) rfl
  have p_Part_wants : PR P w K mg base (CPart K) "wants" "p_wants" := pr_of (st := s_Part_wants) q_Part_wants F_Part_wants sc_Part_wants rfl rfl T.c_Part T.n_Part_p_wants (b_Part_wants F_Part_wants)
  obtain ⟨q_Parts_depth, fd_Parts_depth, F_Parts_depth⟩ : PropOf K (CParts K) "depth" (He.ma K (CParts K) "depth") (pgA K "Parts" "depth") ∧ ∃ fd, FnP K "depth" "Parts.depth" s_Parts_depth (pgA K "Parts" "depth") fd := c.pg_ 8 (p := ⟨"Parts", "depth", dd ("Parts", some "depth") "depth" "Parts.depth" s_Parts_depth⟩) rfl
  have p_Parts_depth : PR P w K mg base (CParts K) "depth" "g_depth" := pr_of (st := s_Parts_depth) q_Parts_depth F_Parts_depth sc_Parts_depth rfl rfl T.c_Parts T.n_Parts_g_depth (b_Parts_depth F_Parts_depth)
  obtain ⟨q_Container_book, fd_Container_book, F_Container_book⟩ : PropOf K (CContainer K) "book" (He.ma K (CContainer K) "book") (pgA K "Container" "book") ∧ ∃ fd, FnP K "book" "Container.book" s_Container_book (pgA K "Container" "book") fd := c.pg_ 9 (p := ⟨"Container", "book", dd ("Container", some "book") "book" "Container.book" s_Container_book⟩) rfl
  have p_Container_book : PR P w K mg base (CContainer K) "book" "c_book" := pr_of (st := s_Container_book) q_Container_book F_Container_book sc_Container_book rfl rfl T.c_Container T.n_Container_c_book (b_Container_book F_Container_book)
  obtain ⟨q_Container_parts, fd_Container_parts, F_Container_parts⟩ : PropOf K (CContainer K) "parts" (He.ma K (CContainer K) "parts") (pgA K "Container" "parts") ∧ ∃ fd, FnP K "parts" "Container.parts" s_Container_parts (pgA K "Container" "parts") fd := c.pg_ 10 (p := ⟨"Container", "parts", dd ("Container", some "parts") "parts" "Container.parts" s_Container_parts⟩) rfl
  have p_Container_parts : PR P w K mg base (CContainer K) "parts" "c_parts" := pr_of (st := s_Container_parts) q_Container_parts F_Container_parts sc_Container_parts rfl rfl T.c_Container T.n_Container_c_parts (b_Container_parts F_Container_parts)
  obtain ⟨q_Container_scopes, fd_Container_scopes, F_Container_scopes⟩ : PropOf K (CContainer K) "scopes" (He.ma K (CContainer K) "scopes") (pgA K "Container" "scopes") ∧ ∃ fd, FnP K "scopes" "Container.scopes" s_Container_scopes (pgA K "Container" "scopes") fd := c.pg_ 11 (p := ⟨"Container", "scopes", dd ("Container", some "scopes") "scopes" "Container.scopes" s_Container_scopes⟩) rfl
  have p_Container_scopes : GP P w K mg base 1 (CContainer K) "scopes" (spScopes K) := ⟨_, _, _, ok_scopes F_Container_scopes T, T.c_Container, q_Container_scopes, b_Container_scopes F_Container_scopes⟩
  obtain ⟨fd_is_number, F_is_number⟩ : ∃ fd, FunD K "is_number" "is_number" (defArgs s_is_number) (defBody s_is_number) (defScope s_is_number) [] [] (He.fAd K ("is_number", none)) fd := c.t.d.def_ 4 (d := dd ("is_number", none) "is_number" "is_number" s_is_number) rfl
  have g_is_number : GF P w K mg base 1 "is_number" P_is_number spIsNumber := ⟨_, _, (ok_is_number F_is_number T), He.glo_ok X G (c.t.d.fact 81 (f := .glo "is_number") rfl), F_is_number.kp, b_is_number F_is_number⟩
  obtain ⟨fd_Parts___contains__, F_Parts___contains__⟩ : ∃ fd, FunD K "__contains__" "Parts.__contains__" (defArgs s_Parts___contains__) (defBody s_Parts___contains__) (defScope s_Parts___contains__) [] [] (He.fAd K ("Parts", some "__contains__")) fd := c.t.d.def_ 39 (d := dd ("Parts", some "__contains__") "__contains__" "Parts.__contains__" s_Parts___contains__) rfl
  have m_Parts___contains__ : GM P w K mg base 1 (CParts K) "__contains__" P_Parts___contains__ (spContains K) := ⟨_, _, (ok_Parts___contains__ F_Parts___contains__ T), T.c_Parts, He.meth_ok (c.t.d.fact 113 (f := .meth "Parts" "__contains__") rfl), b_Parts___contains__ F_Parts___contains__⟩
  obtain ⟨fd_need_part, F_need_part⟩ : ∃ fd, FunD K "need_part" "need_part" (defArgs s_need_part) (defBody s_need_part) (defScope s_need_part) [] [] (He.fAd K ("need_part", none)) fd := c.t.d.def_ 12 (d := dd ("need_part", none) "need_part" "need_part" s_need_part) rfl
  have g_need_part : GF P w K mg base 2 "need_part" P_need_part (spNeedPart K) := ⟨_, _, (ok_need_part F_need_part T (m_Parts___contains__.mono (by decide))), He.glo_ok X G (c.t.d.fact 89 (f := .glo "need_part") rfl), F_need_part.kp, b_need_part F_need_part⟩
  obtain ⟨fd_Parts___getitem__, F_Parts___getitem__⟩ : ∃ fd, FunD K "__getitem__" "Parts.__getitem__" (defArgs s_Parts___getitem__) (defBody s_Parts___getitem__) (defScope s_Parts___getitem__) [] [] (He.fAd K ("Parts", some "__getitem__")) fd := c.t.d.def_ 40 (d := dd ("Parts", some "__getitem__") "__getitem__" "Parts.__getitem__" s_Parts___getitem__) rfl
  have m_Parts___getitem__ : GM P w K mg base 3 (CParts K) "__getitem__" P_Parts___getitem__ (spGetPart K) := ⟨_, _, (ok_Parts___getitem__ F_Parts___getitem__ T (g_need_part.mono (by decide))), T.c_Parts, He.meth_ok (c.t.d.fact 114 (f := .meth "Parts" "__getitem__") rfl), b_Parts___getitem__ F_Parts___getitem__⟩
  obtain ⟨fd_Parts_names, F_Parts_names⟩ : ∃ fd, FunD K "names" "Parts.names" (defArgs s_Parts_names) (defBody s_Parts_names) (defScope s_Parts_names) [] [] (He.fAd K ("Parts", some "names")) fd := c.t.d.def_ 38 (d := dd ("Parts", some "names") "names" "Parts.names" s_Parts_names) rfl
  have m_Parts_names : GM P w K mg base 1 (CParts K) "names" P_Parts_names (spNames K) := ⟨_, _, (ok_names F_Parts_names T), T.c_Parts, He.meth_ok (c.t.d.fact 112 (f := .meth "Parts" "names") rfl), b_Parts_names F_Parts_names⟩
  obtain ⟨fd_Container_is_open, F_Container_is_open⟩ : ∃ fd, FunD K "is_open" "Container.is_open" (defArgs s_Container_is_open) (defBody s_Container_is_open) (defScope s_Container_is_open) [] [] (He.fAd K ("Container", some "is_open")) fd := c.t.d.def_ 47 (d := dd ("Container", some "is_open") "is_open" "Container.is_open" s_Container_is_open) rfl
  have m_Container_is_open : GM P w K mg base 2 (CContainer K) "is_open" P_Container_is_open (spIsOpen K) := ⟨_, _, (ok_is_open F_Container_is_open T (g_is_number.mono (by decide))), T.c_Container, He.meth_ok (c.t.d.fact 118 (f := .meth "Container" "is_open") rfl), b_Container_is_open F_Container_is_open⟩
  obtain ⟨fd_Container_need_request, F_Container_need_request⟩ : ∃ fd, FunD K "need_request" "Container.need_request" (defArgs s_Container_need_request) (defBody s_Container_need_request) (defScope s_Container_need_request) [] [] (He.fAd K ("Container", some "need_request")) fd := c.t.d.def_ 48 (d := dd ("Container", some "need_request") "need_request" "Container.need_request" s_Container_need_request) rfl
  have m_Container_need_request : GM P w K mg base 3 (CContainer K) "need_request" P_Container_need_request (spNeedReq K) := ⟨_, _, (ok_need_request F_Container_need_request T (m_Container_is_open.mono (by decide)) p_Parts_depth), T.c_Container, He.meth_ok (c.t.d.fact 119 (f := .meth "Container" "need_request") rfl), b_Container_need_request F_Container_need_request⟩
  obtain ⟨fd_Container_ancestor, F_Container_ancestor⟩ : ∃ fd, FunD K "ancestor" "Container.ancestor" (defArgs s_Container_ancestor) (defBody s_Container_ancestor) (defScope s_Container_ancestor) [] [] (He.fAd K ("Container", some "ancestor")) fd := c.t.d.def_ 49 (d := dd ("Container", some "ancestor") "ancestor" "Container.ancestor" s_Container_ancestor) rfl
  have m_Container_ancestor : GM P w K mg base 1 (CContainer K) "ancestor" P_Container_ancestor (spAncestor K) := ⟨_, _, (ok_ancestor F_Container_ancestor T), T.c_Container, He.meth_ok (c.t.d.fact 120 (f := .meth "Container" "ancestor") rfl), b_Container_ancestor F_Container_ancestor⟩
  obtain ⟨fd_Container_let_loose, F_Container_let_loose⟩ : ∃ fd, FunD K "let_loose" "Container.let_loose" (defArgs s_Container_let_loose) (defBody s_Container_let_loose) (defScope s_Container_let_loose) [] [] (He.fAd K ("Container", some "let_loose")) fd := c.t.d.def_ 55 (d := dd ("Container", some "let_loose") "let_loose" "Container.let_loose" s_Container_let_loose) rfl
  have m_Container_let_loose : GM P w K mg base 5 (CContainer K) "let_loose" P_Container_let_loose (spLetLoose K) := ⟨_, _, (ok_let_loose F_Container_let_loose T (m_Parts___getitem__.mono (by decide)) p_Part_life), T.c_Container, He.meth_ok (c.t.d.fact 126 (f := .meth "Container" "let_loose") rfl), b_Container_let_loose F_Container_let_loose⟩
  obtain ⟨fd_Scope___init__, F_Scope___init__⟩ : ∃ fd, FunD K "__init__" "Scope.__init__" (defArgs s_Scope___init__) (defBody s_Scope___init__) (defScope s_Scope___init__) [] [] (He.fAd K ("Scope", some "__init__")) fd := c.t.d.def_ 41 (d := dd ("Scope", some "__init__") "__init__" "Scope.__init__" s_Scope___init__) rfl
  have k_Scope : GC P w K mg base 1 "Scope" (CScope K) P_Scope___init__ (spScopeInit K) := ⟨_, _, (ok_Scope___init__ F_Scope___init__ T), T.g_Scope, He.mkr_ok (c.t.d.fact 35 (f := .mkr "Scope") rfl), b_Scope___init__ F_Scope___init__⟩
  obtain ⟨fd_Thing___init__, F_Thing___init__⟩ : ∃ fd, FunD K "__init__" "Thing.__init__" (defArgs s_Thing___init__) (defBody s_Thing___init__) (defScope s_Thing___init__) [] [] (He.fAd K ("Thing", some "__init__")) fd := c.t.d.def_ 42 (d := dd ("Thing", some "__init__") "__init__" "Thing.__init__" s_Thing___init__) rfl
  have k_Thing : GC P w K mg base 1 "Thing" (CThing K) P_Thing___init__ (spThingInit K) := ⟨_, _, (ok_Thing___init__ F_Thing___init__ T), T.g_Thing, He.mkr_ok (c.t.d.fact 41 (f := .mkr "Thing") rfl), b_Thing___init__ F_Thing___init__⟩
  obtain ⟨fd_Container_place_of, F_Container_place_of⟩ : ∃ fd, FunD K "place_of" "Container.place_of" (defArgs s_Container_place_of) (defBody s_Container_place_of) (defScope s_Container_place_of) [] [] (He.fAd K ("Container", some "place_of")) fd := c.t.d.def_ 50 (d := dd ("Container", some "place_of") "place_of" "Container.place_of" s_Container_place_of) rfl
  have m_Container_place_of : GM P w K mg base 5 (CContainer K) "place_of" P_Container_place_of (spPlaceOf K) := ⟨_, _, (ok_place_of F_Container_place_of T (m_Parts___getitem__.mono (by decide)) p_Part_life (m_Container_ancestor.mono (by decide)) p_Book_lifted), T.c_Container, He.meth_ok (c.t.d.fact 121 (f := .meth "Container" "place_of") rfl), b_Container_place_of F_Container_place_of⟩
  obtain ⟨fd_Container_opened, F_Container_opened⟩ : ∃ fd, FunD K "opened" "Container.opened" (defArgs s_Container_opened) (defBody s_Container_opened) (defScope s_Container_opened) [] [] (He.fAd K ("Container", some "opened")) fd := c.t.d.def_ 62 (d := dd ("Container", some "opened") "opened" "Container.opened" s_Container_opened) rfl
  have m_Container_opened : GM P w K mg base 3 (CContainer K) "opened" P_Container_opened (spOpened K) := ⟨_, _, (ok_opened F_Container_opened T (k_Scope.mono (by decide))), T.c_Container, He.meth_ok (c.t.d.fact 133 (f := .meth "Container" "opened") rfl), b_Container_opened F_Container_opened⟩
  obtain ⟨fd_Container_get, F_Container_get⟩ : ∃ fd, FunD K "get" "Container.get" (defArgs s_Container_get) (defBody s_Container_get) (defScope s_Container_get) [] [] (He.fAd K ("Container", some "get")) fd := c.t.d.def_ 51 (d := dd ("Container", some "get") "get" "Container.get" s_Container_get) rfl
  obtain ⟨fd_Container_make, F_Container_make⟩ : ∃ fd, FunD K "make" "Container.make" (defArgs s_Container_make) (defBody s_Container_make) (defScope s_Container_make) [] [] (He.fAd K ("Container", some "make")) fd := c.t.d.def_ 52 (d := dd ("Container", some "make") "make" "Container.make" s_Container_make) rfl
  obtain ⟨fd_Container_wanted, F_Container_wanted⟩ : ∃ fd, FunD K "wanted" "Container.wanted" (defArgs s_Container_wanted) (defBody s_Container_wanted) (defScope s_Container_wanted) [] [] (He.fAd K ("Container", some "wanted")) fd := c.t.d.def_ 53 (d := dd ("Container", some "wanted") "wanted" "Container.wanted" s_Container_wanted) rfl
  have get_0 : GM P w K mg base 10 (CContainer K) "get" P_Container_get (spGet K 0) := ⟨_, _, ((get0 F_Container_get).mono (by decide)), T.c_Container, He.meth_ok (c.t.d.fact 122 (f := .meth "Container" "get") rfl), b_Container_get F_Container_get⟩
  have wanted_0 : GM P w K mg base 11 (CContainer K) "wanted" P_Container_wanted (spWanted K 0) := ⟨_, _, (ok_wanted (k := 10) (r := 0) F_Container_wanted T get_0), T.c_Container, He.meth_ok (c.t.d.fact 124 (f := .meth "Container" "wanted") rfl), b_Container_wanted F_Container_wanted⟩
  have make_0 : GM P w K mg base 12 (CContainer K) "make" P_Container_make (spMake K 0) := ⟨_, _, (ok_make (k := 11) (r := 0) (by decide) F_Container_make T (k_Thing.mono (by decide)) p_Book_held (m_Parts___getitem__.mono (by decide)) p_Part_wants wanted_0), T.c_Container, He.meth_ok (c.t.d.fact 123 (f := .meth "Container" "make") rfl), b_Container_make F_Container_make⟩
  have get_1 : GM P w K mg base 13 (CContainer K) "get" P_Container_get (spGet K (0 + 1)) := ⟨_, _, (ok_get (k := 12) (r := 0) (by decide) F_Container_get T (m_Parts___getitem__.mono (by decide)) p_Part_life (m_Container_place_of.mono (by decide)) make_0), T.c_Container, He.meth_ok (c.t.d.fact 122 (f := .meth "Container" "get") rfl), b_Container_get F_Container_get⟩
  have wanted_1 : GM P w K mg base 14 (CContainer K) "wanted" P_Container_wanted (spWanted K 1) := ⟨_, _, (ok_wanted (k := 13) (r := 1) F_Container_wanted T get_1), T.c_Container, He.meth_ok (c.t.d.fact 124 (f := .meth "Container" "wanted") rfl), b_Container_wanted F_Container_wanted⟩
  have make_1 : GM P w K mg base 15 (CContainer K) "make" P_Container_make (spMake K 1) := ⟨_, _, (ok_make (k := 14) (r := 1) (by decide) F_Container_make T (k_Thing.mono (by decide)) p_Book_held (m_Parts___getitem__.mono (by decide)) p_Part_wants wanted_1), T.c_Container, He.meth_ok (c.t.d.fact 123 (f := .meth "Container" "make") rfl), b_Container_make F_Container_make⟩
  have get_2 : GM P w K mg base 16 (CContainer K) "get" P_Container_get (spGet K (1 + 1)) := ⟨_, _, (ok_get (k := 15) (r := 1) (by decide) F_Container_get T (m_Parts___getitem__.mono (by decide)) p_Part_life (m_Container_place_of.mono (by decide)) make_1), T.c_Container, He.meth_ok (c.t.d.fact 122 (f := .meth "Container" "get") rfl), b_Container_get F_Container_get⟩
  have wanted_2 : GM P w K mg base 17 (CContainer K) "wanted" P_Container_wanted (spWanted K 2) := ⟨_, _, (ok_wanted (k := 16) (r := 2) F_Container_wanted T get_2), T.c_Container, He.meth_ok (c.t.d.fact 124 (f := .meth "Container" "wanted") rfl), b_Container_wanted F_Container_wanted⟩
  have make_2 : GM P w K mg base 18 (CContainer K) "make" P_Container_make (spMake K 2) := ⟨_, _, (ok_make (k := 17) (r := 2) (by decide) F_Container_make T (k_Thing.mono (by decide)) p_Book_held (m_Parts___getitem__.mono (by decide)) p_Part_wants wanted_2), T.c_Container, He.meth_ok (c.t.d.fact 123 (f := .meth "Container" "make") rfl), b_Container_make F_Container_make⟩
  have get_3 : GM P w K mg base 19 (CContainer K) "get" P_Container_get (spGet K (2 + 1)) := ⟨_, _, (ok_get (k := 18) (r := 2) (by decide) F_Container_get T (m_Parts___getitem__.mono (by decide)) p_Part_life (m_Container_place_of.mono (by decide)) make_2), T.c_Container, He.meth_ok (c.t.d.fact 122 (f := .meth "Container" "get") rfl), b_Container_get F_Container_get⟩
  have wanted_3 : GM P w K mg base 20 (CContainer K) "wanted" P_Container_wanted (spWanted K 3) := ⟨_, _, (ok_wanted (k := 19) (r := 3) F_Container_wanted T get_3), T.c_Container, He.meth_ok (c.t.d.fact 124 (f := .meth "Container" "wanted") rfl), b_Container_wanted F_Container_wanted⟩
  have make_3 : GM P w K mg base 21 (CContainer K) "make" P_Container_make (spMake K 3) := ⟨_, _, (ok_make (k := 20) (r := 3) (by decide) F_Container_make T (k_Thing.mono (by decide)) p_Book_held (m_Parts___getitem__.mono (by decide)) p_Part_wants wanted_3), T.c_Container, He.meth_ok (c.t.d.fact 123 (f := .meth "Container" "make") rfl), b_Container_make F_Container_make⟩
  have get_4 : GM P w K mg base 22 (CContainer K) "get" P_Container_get (spGet K (3 + 1)) := ⟨_, _, (ok_get (k := 21) (r := 3) (by decide) F_Container_get T (m_Parts___getitem__.mono (by decide)) p_Part_life (m_Container_place_of.mono (by decide)) make_3), T.c_Container, He.meth_ok (c.t.d.fact 122 (f := .meth "Container" "get") rfl), b_Container_get F_Container_get⟩
  have wanted_4 : GM P w K mg base 23 (CContainer K) "wanted" P_Container_wanted (spWanted K 4) := ⟨_, _, (ok_wanted (k := 22) (r := 4) F_Container_wanted T get_4), T.c_Container, He.meth_ok (c.t.d.fact 124 (f := .meth "Container" "wanted") rfl), b_Container_wanted F_Container_wanted⟩
  have make_4 : GM P w K mg base 24 (CContainer K) "make" P_Container_make (spMake K 4) := ⟨_, _, (ok_make (k := 23) (r := 4) (by decide) F_Container_make T (k_Thing.mono (by decide)) p_Book_held (m_Parts___getitem__.mono (by decide)) p_Part_wants wanted_4), T.c_Container, He.meth_ok (c.t.d.fact 123 (f := .meth "Container" "make") rfl), b_Container_make F_Container_make⟩
  have get_5 : GM P w K mg base 25 (CContainer K) "get" P_Container_get (spGet K (4 + 1)) := ⟨_, _, (ok_get (k := 24) (r := 4) (by decide) F_Container_get T (m_Parts___getitem__.mono (by decide)) p_Part_life (m_Container_place_of.mono (by decide)) make_4), T.c_Container, He.meth_ok (c.t.d.fact 122 (f := .meth "Container" "get") rfl), b_Container_get F_Container_get⟩
  have wanted_5 : GM P w K mg base 26 (CContainer K) "wanted" P_Container_wanted (spWanted K 5) := ⟨_, _, (ok_wanted (k := 25) (r := 5) F_Container_wanted T get_5), T.c_Container, He.meth_ok (c.t.d.fact 124 (f := .meth "Container" "wanted") rfl), b_Container_wanted F_Container_wanted⟩
  have make_5 : GM P w K mg base 27 (CContainer K) "make" P_Container_make (spMake K 5) := ⟨_, _, (ok_make (k := 26) (r := 5) (by decide) F_Container_make T (k_Thing.mono (by decide)) p_Book_held (m_Parts___getitem__.mono (by decide)) p_Part_wants wanted_5), T.c_Container, He.meth_ok (c.t.d.fact 123 (f := .meth "Container" "make") rfl), b_Container_make F_Container_make⟩
  have get_6 : GM P w K mg base 28 (CContainer K) "get" P_Container_get (spGet K (5 + 1)) := ⟨_, _, (ok_get (k := 27) (r := 5) (by decide) F_Container_get T (m_Parts___getitem__.mono (by decide)) p_Part_life (m_Container_place_of.mono (by decide)) make_5), T.c_Container, He.meth_ok (c.t.d.fact 122 (f := .meth "Container" "get") rfl), b_Container_get F_Container_get⟩
  have m_Container_get : GM P w K mg base 28 (CContainer K) "get" P_Container_get (spGet K TOP) := get_6
  have m_Container_wanted : GM P w K mg base 29 (CContainer K) "wanted" P_Container_wanted (spWanted K TOP) := ⟨_, _, (ok_wanted (k := 28) (r := TOP) F_Container_wanted T (m_Container_get.mono (by decide))), T.c_Container, He.meth_ok (c.t.d.fact 124 (f := .meth "Container" "wanted") rfl), b_Container_wanted F_Container_wanted⟩
  obtain ⟨fd_Container_use_thing, F_Container_use_thing⟩ : ∃ fd, FunD K "use_thing" "Container.use_thing" (defArgs s_Container_use_thing) (defBody s_Container_use_thing) (defScope s_Container_use_thing) [] [] (He.fAd K ("Container", some "use_thing")) fd := c.t.d.def_ 54 (d := dd ("Container", some "use_thing") "use_thing" "Container.use_thing" s_Container_use_thing) rfl
  have use_0 : GM P w K mg base 29 (CContainer K) "use_thing" P_Container_use_thing (spUse K 0) := ⟨_, _, ((use0 F_Container_use_thing).mono (by decide)), T.c_Container, He.meth_ok (c.t.d.fact 125 (f := .meth "Container" "use_thing") rfl), b_Container_use_thing F_Container_use_thing⟩
  have use_1 : GM P w K mg base 30 (CContainer K) "use_thing" P_Container_use_thing (spUse K (0 + 1)) := ⟨_, _, (ok_use_thing (k := 29) (kw := 29) (r := 0) (by decide) (by decide) F_Container_use_thing T (m_Parts___getitem__.mono (by decide)) p_Part_life p_Part_wants p_Book_each (m_Container_ancestor.mono (by decide)) (m_Container_wanted.mono (by decide)) (m_Container_let_loose.mono (by decide)) use_0), T.c_Container, He.meth_ok (c.t.d.fact 125 (f := .meth "Container" "use_thing") rfl), b_Container_use_thing F_Container_use_thing⟩
  have use_2 : GM P w K mg base 31 (CContainer K) "use_thing" P_Container_use_thing (spUse K (1 + 1)) := ⟨_, _, (ok_use_thing (k := 30) (kw := 29) (r := 1) (by decide) (by decide) F_Container_use_thing T (m_Parts___getitem__.mono (by decide)) p_Part_life p_Part_wants p_Book_each (m_Container_ancestor.mono (by decide)) (m_Container_wanted.mono (by decide)) (m_Container_let_loose.mono (by decide)) use_1), T.c_Container, He.meth_ok (c.t.d.fact 125 (f := .meth "Container" "use_thing") rfl), b_Container_use_thing F_Container_use_thing⟩
  have use_3 : GM P w K mg base 32 (CContainer K) "use_thing" P_Container_use_thing (spUse K (2 + 1)) := ⟨_, _, (ok_use_thing (k := 31) (kw := 29) (r := 2) (by decide) (by decide) F_Container_use_thing T (m_Parts___getitem__.mono (by decide)) p_Part_life p_Part_wants p_Book_each (m_Container_ancestor.mono (by decide)) (m_Container_wanted.mono (by decide)) (m_Container_let_loose.mono (by decide)) use_2), T.c_Container, He.meth_ok (c.t.d.fact 125 (f := .meth "Container" "use_thing") rfl), b_Container_use_thing F_Container_use_thing⟩
  have use_4 : GM P w K mg base 33 (CContainer K) "use_thing" P_Container_use_thing (spUse K (3 + 1)) := ⟨_, _, (ok_use_thing (k := 32) (kw := 29) (r := 3) (by decide) (by decide) F_Container_use_thing T (m_Parts___getitem__.mono (by decide)) p_Part_life p_Part_wants p_Book_each (m_Container_ancestor.mono (by decide)) (m_Container_wanted.mono (by decide)) (m_Container_let_loose.mono (by decide)) use_3), T.c_Container, He.meth_ok (c.t.d.fact 125 (f := .meth "Container" "use_thing") rfl), b_Container_use_thing F_Container_use_thing⟩
  have use_5 : GM P w K mg base 34 (CContainer K) "use_thing" P_Container_use_thing (spUse K (4 + 1)) := ⟨_, _, (ok_use_thing (k := 33) (kw := 29) (r := 4) (by decide) (by decide) F_Container_use_thing T (m_Parts___getitem__.mono (by decide)) p_Part_life p_Part_wants p_Book_each (m_Container_ancestor.mono (by decide)) (m_Container_wanted.mono (by decide)) (m_Container_let_loose.mono (by decide)) use_4), T.c_Container, He.meth_ok (c.t.d.fact 125 (f := .meth "Container" "use_thing") rfl), b_Container_use_thing F_Container_use_thing⟩
  have use_6 : GM P w K mg base 35 (CContainer K) "use_thing" P_Container_use_thing (spUse K (5 + 1)) := ⟨_, _, (ok_use_thing (k := 34) (kw := 29) (r := 5) (by decide) (by decide) F_Container_use_thing T (m_Parts___getitem__.mono (by decide)) p_Part_life p_Part_wants p_Book_each (m_Container_ancestor.mono (by decide)) (m_Container_wanted.mono (by decide)) (m_Container_let_loose.mono (by decide)) use_5), T.c_Container, He.meth_ok (c.t.d.fact 125 (f := .meth "Container" "use_thing") rfl), b_Container_use_thing F_Container_use_thing⟩
  have m_Container_use_thing : GM P w K mg base 35 (CContainer K) "use_thing" P_Container_use_thing (spUse K TOP) := use_6
  obtain ⟨fd_Container_end_thing, F_Container_end_thing⟩ : ∃ fd, FunD K "end_thing" "Container.end_thing" (defArgs s_Container_end_thing) (defBody s_Container_end_thing) (defScope s_Container_end_thing) [] [] (He.fAd K ("Container", some "end_thing")) fd := c.t.d.def_ 56 (d := dd ("Container", some "end_thing") "end_thing" "Container.end_thing" s_Container_end_thing) rfl
  have end_0 : GM P w K mg base 10 (CContainer K) "end_thing" P_Container_end_thing (spEnd K 0) := ⟨_, _, ((end0 F_Container_end_thing).mono (by decide)), T.c_Container, He.meth_ok (c.t.d.fact 127 (f := .meth "Container" "end_thing") rfl), b_Container_end_thing F_Container_end_thing⟩
  have end_1 : GM P w K mg base 11 (CContainer K) "end_thing" P_Container_end_thing (spEnd K (0 + 1)) := ⟨_, _, (ok_end_thing (k := 10) (r := 0) (by decide) F_Container_end_thing T p_Book_ends (m_Parts___getitem__.mono (by decide)) p_Part_life end_0), T.c_Container, He.meth_ok (c.t.d.fact 127 (f := .meth "Container" "end_thing") rfl), b_Container_end_thing F_Container_end_thing⟩
  have end_2 : GM P w K mg base 12 (CContainer K) "end_thing" P_Container_end_thing (spEnd K (1 + 1)) := ⟨_, _, (ok_end_thing (k := 11) (r := 1) (by decide) F_Container_end_thing T p_Book_ends (m_Parts___getitem__.mono (by decide)) p_Part_life end_1), T.c_Container, He.meth_ok (c.t.d.fact 127 (f := .meth "Container" "end_thing") rfl), b_Container_end_thing F_Container_end_thing⟩
  have end_3 : GM P w K mg base 13 (CContainer K) "end_thing" P_Container_end_thing (spEnd K (2 + 1)) := ⟨_, _, (ok_end_thing (k := 12) (r := 2) (by decide) F_Container_end_thing T p_Book_ends (m_Parts___getitem__.mono (by decide)) p_Part_life end_2), T.c_Container, He.meth_ok (c.t.d.fact 127 (f := .meth "Container" "end_thing") rfl), b_Container_end_thing F_Container_end_thing⟩
  have end_4 : GM P w K mg base 14 (CContainer K) "end_thing" P_Container_end_thing (spEnd K (3 + 1)) := ⟨_, _, (ok_end_thing (k := 13) (r := 3) (by decide) F_Container_end_thing T p_Book_ends (m_Parts___getitem__.mono (by decide)) p_Part_life end_3), T.c_Container, He.meth_ok (c.t.d.fact 127 (f := .meth "Container" "end_thing") rfl), b_Container_end_thing F_Container_end_thing⟩
  have end_5 : GM P w K mg base 15 (CContainer K) "end_thing" P_Container_end_thing (spEnd K (4 + 1)) := ⟨_, _, (ok_end_thing (k := 14) (r := 4) (by decide) F_Container_end_thing T p_Book_ends (m_Parts___getitem__.mono (by decide)) p_Part_life end_4), T.c_Container, He.meth_ok (c.t.d.fact 127 (f := .meth "Container" "end_thing") rfl), b_Container_end_thing F_Container_end_thing⟩
  have end_6 : GM P w K mg base 16 (CContainer K) "end_thing" P_Container_end_thing (spEnd K (5 + 1)) := ⟨_, _, (ok_end_thing (k := 15) (r := 5) (by decide) F_Container_end_thing T p_Book_ends (m_Parts___getitem__.mono (by decide)) p_Part_life end_5), T.c_Container, He.meth_ok (c.t.d.fact 127 (f := .meth "Container" "end_thing") rfl), b_Container_end_thing F_Container_end_thing⟩
  have m_Container_end_thing : GM P w K mg base 16 (CContainer K) "end_thing" P_Container_end_thing (spEnd K TOP) := end_6
  obtain ⟨fd_Container_is_quiet, F_Container_is_quiet⟩ : ∃ fd, FunD K "is_quiet" "Container.is_quiet" (defArgs s_Container_is_quiet) (defBody s_Container_is_quiet) (defScope s_Container_is_quiet) [] [] (He.fAd K ("Container", some "is_quiet")) fd := c.t.d.def_ 58 (d := dd ("Container", some "is_quiet") "is_quiet" "Container.is_quiet" s_Container_is_quiet) rfl
  have m_Container_is_quiet : GM P w K mg base 3 (CContainer K) "is_quiet" P_Container_is_quiet (spQuiet K) := ⟨_, _, (ok_is_quiet F_Container_is_quiet T (p_Container_scopes.mono (by decide))), T.c_Container, He.meth_ok (c.t.d.fact 129 (f := .meth "Container" "is_quiet") rfl), b_Container_is_quiet F_Container_is_quiet⟩
  obtain ⟨fd_Container_attached, F_Container_attached⟩ : ∃ fd, FunD K "attached" "Container.attached" (defArgs s_Container_attached) (defBody s_Container_attached) (defScope s_Container_attached) [] [] (He.fAd K ("Container", some "attached")) fd := c.t.d.def_ 59 (d := dd ("Container", some "attached") "attached" "Container.attached" s_Container_attached) rfl
  have m_Container_attached : GM P w K mg base 6 (CContainer K) "attached" P_Container_attached (spAttached K) := ⟨_, _, (ok_attached F_Container_attached T (m_Parts___getitem__.mono (by decide)) p_Part_life), T.c_Container, He.meth_ok (c.t.d.fact 130 (f := .meth "Container" "attached") rfl), b_Container_attached F_Container_attached⟩
  obtain ⟨fd_Container_shut, F_Container_shut⟩ : ∃ fd, FunD K "shut" "Container.shut" (defArgs s_Container_shut) (defBody s_Container_shut) (defScope s_Container_shut) [] [] (He.fAd K ("Container", some "shut")) fd := c.t.d.def_ 57 (d := dd ("Container", some "shut") "shut" "Container.shut" s_Container_shut) rfl
  have m_Container_shut : GM P w K mg base 17 (CContainer K) "shut" P_Container_shut (spShut K) := ⟨_, _, (ok_shut (ke := 16) (by decide) F_Container_shut T p_Book_ends (m_Parts___getitem__.mono (by decide)) p_Part_life (m_Container_end_thing.mono (by decide))), T.c_Container, He.meth_ok (c.t.d.fact 128 (f := .meth "Container" "shut") rfl), b_Container_shut F_Container_shut⟩
  obtain ⟨fd_Container_finish, F_Container_finish⟩ : ∃ fd, FunD K "finish" "Container.finish" (defArgs s_Container_finish) (defBody s_Container_finish) (defScope s_Container_finish) [] [] (He.fAd K ("Container", some "finish")) fd := c.t.d.def_ 60 (d := dd ("Container", some "finish") "finish" "Container.finish" s_Container_finish) rfl
  have m_Container_finish : GM P w K mg base 17 (CContainer K) "finish" P_Container_finish (spFinish K) := ⟨_, _, (ok_finish (ke := 16) (by decide) F_Container_finish T p_Book_ends (m_Parts___getitem__.mono (by decide)) p_Part_life (m_Container_end_thing.mono (by decide)) (m_Container_is_quiet.mono (by decide)) (m_Container_attached.mono (by decide))), T.c_Container, He.meth_ok (c.t.d.fact 131 (f := .meth "Container" "finish") rfl), b_Container_finish F_Container_finish⟩
  obtain ⟨fd_Container_begin, F_Container_begin⟩ : ∃ fd, FunD K "begin" "Container.begin" (defArgs s_Container_begin) (defBody s_Container_begin) (defScope s_Container_begin) [] [] (He.fAd K ("Container", some "begin")) fd := c.t.d.def_ 61 (d := dd ("Container", some "begin") "begin" "Container.begin" s_Container_begin) rfl
  have m_Container_begin : GM P w K mg base 18 (CContainer K) "begin" P_Container_begin (spBegin K) := ⟨_, _, (ok_begin (k := 17) (by decide) F_Container_begin T (m_Container_is_open.mono (by decide)) p_Parts_depth (m_Container_opened.mono (by decide)) (m_Container_finish.mono (by decide))), T.c_Container, He.meth_ok (c.t.d.fact 132 (f := .meth "Container" "begin") rfl), b_Container_begin F_Container_begin⟩
  obtain ⟨fd_Container_close, F_Container_close⟩ : ∃ fd, FunD K "close" "Container.close" (defArgs s_Container_close) (defBody s_Container_close) (defScope s_Container_close) [] [] (He.fAd K ("Container", some "close")) fd := c.t.d.def_ 63 (d := dd ("Container", some "close") "close" "Container.close" s_Container_close) rfl
  have m_Container_close : GM P w K mg base 18 (CContainer K) "close" P_Container_close (spClose K) := ⟨_, _, (ok_close (k := 17) (by decide) F_Container_close T (m_Container_is_open.mono (by decide)) (p_Container_scopes.mono (by decide)) p_Book_works (m_Container_shut.mono (by decide)) (m_Container_finish.mono (by decide))), T.c_Container, He.meth_ok (c.t.d.fact 134 (f := .meth "Container" "close") rfl), b_Container_close F_Container_close⟩
  obtain ⟨fd_Container_ask, F_Container_ask⟩ : ∃ fd, FunD K "ask" "Container.ask" (defArgs s_Container_ask) (defBody s_Container_ask) (defScope s_Container_ask) [] [] (He.fAd K ("Container", some "ask")) fd := c.t.d.def_ 64 (d := dd ("Container", some "ask") "ask" "Container.ask" s_Container_ask) rfl
  have m_Container_ask : GM P w K mg base 29 (CContainer K) "ask" P_Container_ask (spAsk K) := ⟨_, _, (ok_ask (k := 28) (by decide) F_Container_ask T (m_Container_need_request.mono (by decide)) (g_need_part.mono (by decide)) (m_Container_get.mono (by decide)) (m_Container_let_loose.mono (by decide)) (m_Container_finish.mono (by decide))), T.c_Container, He.meth_ok (c.t.d.fact 135 (f := .meth "Container" "ask") rfl), b_Container_ask F_Container_ask⟩
  obtain ⟨fd_Container_use, F_Container_use⟩ : ∃ fd, FunD K "use" "Container.use" (defArgs s_Container_use) (defBody s_Container_use) (defScope s_Container_use) [] [] (He.fAd K ("Container", some "use")) fd := c.t.d.def_ 65 (d := dd ("Container", some "use") "use" "Container.use" s_Container_use) rfl
  have m_Container_use : GM P w K mg base 36 (CContainer K) "use" P_Container_use (spUseD K) := ⟨_, _, (ok_use (k := 35) (by decide) F_Container_use T (m_Container_need_request.mono (by decide)) (g_need_part.mono (by decide)) (m_Container_get.mono (by decide)) (m_Container_let_loose.mono (by decide)) (m_Container_use_thing.mono (by decide)) (m_Container_finish.mono (by decide))), T.c_Container, He.meth_ok (c.t.d.fact 136 (f := .meth "Container" "use") rfl), b_Container_use F_Container_use⟩
  obtain ⟨fd_Container_later, F_Container_later⟩ : ∃ fd, FunD K "later" "Container.later" (defArgs s_Container_later) (defBody s_Container_later) (defScope s_Container_later) [] [] (He.fAd K ("Container", some "later")) fd := c.t.d.def_ 66 (d := dd ("Container", some "later") "later" "Container.later" s_Container_later) rfl
  have m_Container_later : GM P w K mg base 29 (CContainer K) "later" P_Container_later (spLater K) := ⟨_, _, (ok_later (k := 28) (by decide) F_Container_later T (m_Container_need_request.mono (by decide)) (g_need_part.mono (by decide)) p_Book_works (m_Container_get.mono (by decide)) (m_Container_finish.mono (by decide))), T.c_Container, He.meth_ok (c.t.d.fact 137 (f := .meth "Container" "later") rfl), b_Container_later F_Container_later⟩
  obtain ⟨fd_Container_run, F_Container_run⟩ : ∃ fd, FunD K "run" "Container.run" (defArgs s_Container_run) (defBody s_Container_run) (defScope s_Container_run) [] [] (He.fAd K ("Container", some "run")) fd := c.t.d.def_ 67 (d := dd ("Container", some "run") "run" "Container.run" s_Container_run) rfl
  have m_Container_run : GM P w K mg base 36 (CContainer K) "run" P_Container_run (spRun K) := ⟨_, _, (ok_run (k := 35) (by decide) F_Container_run T (g_is_number.mono (by decide)) p_Book_works p_Parts_depth (m_Container_opened.mono (by decide)) (m_Container_get.mono (by decide)) (m_Container_let_loose.mono (by decide)) (m_Container_use_thing.mono (by decide)) (m_Container_shut.mono (by decide)) (m_Container_finish.mono (by decide))), T.c_Container, He.meth_ok (c.t.d.fact 138 (f := .meth "Container" "run") rfl), b_Container_run F_Container_run⟩
  obtain ⟨fd_is_deed, F_is_deed⟩ : ∃ fd, FunD K "is_deed" "is_deed" (defArgs s_is_deed) (defBody s_is_deed) (defScope s_is_deed) [] [] (He.fAd K ("is_deed", none)) fd := c.t.d.def_ 15 (d := dd ("is_deed", none) "is_deed" "is_deed" s_is_deed) rfl
  have g_is_deed : GF P w K mg base 1 "is_deed" P_is_deed spIsDeed := ⟨_, _, (ok_is_deed F_is_deed T Z), He.glo_ok X G (c.t.d.fact 92 (f := .glo "is_deed") rfl), F_is_deed.kp, b_is_deed F_is_deed⟩
  obtain ⟨fd_Container_answer, F_Container_answer⟩ : ∃ fd, FunD K "answer" "Container.answer" (defArgs s_Container_answer) (defBody s_Container_answer) (defScope s_Container_answer) [] [] (He.fAd K ("Container", some "answer")) fd := c.t.d.def_ 69 (d := dd ("Container", some "answer") "answer" "Container.answer" s_Container_answer) rfl
  have m_Container_answer : GM P w K mg base 37 (CContainer K) "answer" P_Container_answer (spAnswer K) := ⟨_, _, (ok_answer (k := 36) (by decide) F_Container_answer T (m_Container_begin.mono (by decide)) (m_Container_close.mono (by decide)) (m_Container_ask.mono (by decide)) (m_Container_use.mono (by decide)) (m_Container_later.mono (by decide)) (m_Container_run.mono (by decide))), T.c_Container, He.meth_ok (c.t.d.fact 140 (f := .meth "Container" "answer") rfl), b_Container_answer F_Container_answer⟩
  obtain ⟨fd_Container_do, F_Container_do⟩ : ∃ fd, FunD K "do" "Container.do" (defArgs s_Container_do) (defBody s_Container_do) (defScope s_Container_do) [] [] (He.fAd K ("Container", some "do")) fd := c.t.d.def_ 68 (d := dd ("Container", some "do") "do" "Container.do" s_Container_do) rfl
  have m_Container_do : GM P w K mg base 38 (CContainer K) "do" P_Container_do (spDo K) := ⟨_, _, (ok_do (k := 37) (by decide) F_Container_do T (g_is_deed.mono (by decide)) (m_Container_answer.mono (by decide))), T.c_Container, He.meth_ok (c.t.d.fact 139 (f := .meth "Container" "do") rfl), b_Container_do F_Container_do⟩
  obtain ⟨fd_Container_faults, F_Container_faults⟩ : ∃ fd, FunD K "faults" "Container.faults" (defArgs s_Container_faults) (defBody s_Container_faults) (defScope s_Container_faults) [] [] (He.fAd K ("Container", some "faults")) fd := c.t.d.def_ 44 (d := dd ("Container", some "faults") "faults" "Container.faults" s_Container_faults) rfl
  have m_Container_faults : GM P w K mg base 1 (CContainer K) "faults" P_Container_faults (spFaults K) := ⟨_, _, (ok_faults F_Container_faults T), T.c_Container, He.meth_ok (c.t.d.fact 115 (f := .meth "Container" "faults") rfl), b_Container_faults F_Container_faults⟩
  obtain ⟨fd_Container_things, F_Container_things⟩ : ∃ fd, FunD K "things" "Container.things" (defArgs s_Container_things) (defBody s_Container_things) (defScope s_Container_things) [] [] (He.fAd K ("Container", some "things")) fd := c.t.d.def_ 45 (d := dd ("Container", some "things") "things" "Container.things" s_Container_things) rfl
  have m_Container_things : GM P w K mg base 1 (CContainer K) "things" P_Container_things (spThings K) := ⟨_, _, (ok_things F_Container_things T), T.c_Container, He.meth_ok (c.t.d.fact 116 (f := .meth "Container" "things") rfl), b_Container_things F_Container_things⟩
  obtain ⟨fd_Container_waiting, F_Container_waiting⟩ : ∃ fd, FunD K "waiting" "Container.waiting" (defArgs s_Container_waiting) (defBody s_Container_waiting) (defScope s_Container_waiting) [] [] (He.fAd K ("Container", some "waiting")) fd := c.t.d.def_ 46 (d := dd ("Container", some "waiting") "waiting" "Container.waiting" s_Container_waiting) rfl
  have m_Container_waiting : GM P w K mg base 1 (CContainer K) "waiting" P_Container_waiting (spWaiting K) := ⟨_, _, (ok_waiting F_Container_waiting T), T.c_Container, He.meth_ok (c.t.d.fact 117 (f := .meth "Container" "waiting") rfl), b_Container_waiting F_Container_waiting⟩
  obtain ⟨fd_bar_of, F_bar_of⟩ : ∃ fd, FunD K "bar_of" "bar_of" (defArgs s_bar_of) (defBody s_bar_of) (defScope s_bar_of) [] [] (He.fAd K ("bar_of", none)) fd := c.t.d.def_ 13 (d := dd ("bar_of", none) "bar_of" "bar_of" s_bar_of) rfl
  have g_bar_of : GF P w K mg base 1 "bar_of" P_bar_of spBarOf := ⟨_, _, (ok_bar_of F_bar_of T), He.glo_ok X G (c.t.d.fact 90 (f := .glo "bar_of") rfl), F_bar_of.kp, b_bar_of F_bar_of⟩
  obtain ⟨fd_broken_bars, F_broken_bars⟩ : ∃ fd, FunD K "broken_bars" "broken_bars" (defArgs s_broken_bars) (defBody s_broken_bars) (defScope s_broken_bars) [] [] (He.fAd K ("broken_bars", none)) fd := c.t.d.def_ 14 (d := dd ("broken_bars", none) "broken_bars" "broken_bars" s_broken_bars) rfl
  have g_broken_bars : GF P w K mg base 6 "broken_bars" P_broken_bars (spBroken K) := ⟨_, _, (ok_broken_bars F_broken_bars T (m_Parts_names.mono (by decide)) (m_Parts___getitem__.mono (by decide)) p_Part_wants p_Part_life (g_bar_of.mono (by decide))), He.glo_ok X G (c.t.d.fact 91 (f := .glo "broken_bars") rfl), F_broken_bars.kp, b_broken_bars F_broken_bars⟩
  obtain ⟨fd_need_book, F_need_book⟩ : ∃ fd, FunD K "need_book" "need_book" (defArgs s_need_book) (defBody s_need_book) (defScope s_need_book) [] [] (He.fAd K ("need_book", none)) fd := c.t.d.def_ 3 (d := dd ("need_book", none) "need_book" "need_book" s_need_book) rfl
  have g_need_book : GF P w K mg base 1 "need_book" P_need_book (spNeedBook K) := ⟨_, _, (ok_need_book F_need_book T OBook), He.glo_ok X G (c.t.d.fact 80 (f := .glo "need_book") rfl), F_need_book.kp, b_need_book F_need_book⟩
  obtain ⟨fd_need_parts, F_need_parts⟩ : ∃ fd, FunD K "need_parts" "need_parts" (defArgs s_need_parts) (defBody s_need_parts) (defScope s_need_parts) [] [] (He.fAd K ("need_parts", none)) fd := c.t.d.def_ 11 (d := dd ("need_parts", none) "need_parts" "need_parts" s_need_parts) rfl
  have g_need_parts : GF P w K mg base 1 "need_parts" P_need_parts (spNeedParts K) := ⟨_, _, (ok_need_parts F_need_parts T OParts), He.glo_ok X G (c.t.d.fact 88 (f := .glo "need_parts") rfl), F_need_parts.kp, b_need_parts F_need_parts⟩
  obtain ⟨fd_Container___init__, F_Container___init__⟩ : ∃ fd, FunD K "__init__" "Container.__init__" (defArgs s_Container___init__) (defBody s_Container___init__) (defScope s_Container___init__) [] [] (He.fAd K ("Container", some "__init__")) fd := c.t.d.def_ 43 (d := dd ("Container", some "__init__") "__init__" "Container.__init__" s_Container___init__) rfl
  have k_Container : GC P w K mg base 8 "Container" (CContainer K) P_Container___init__ (spCInit K) := ⟨_, _, (ok_Container___init__ F_Container___init__ T (g_need_book.mono (by decide)) (g_need_parts.mono (by decide)) (g_broken_bars.mono (by decide)) p_Book_bars (k_Scope.mono (by decide))), T.g_Container, He.mkr_ok (c.t.d.fact 11 (f := .mkr "Container") rfl), b_Container___init__ F_Container___init__⟩
  obtain ⟨fd_is_one_of, F_is_one_of⟩ : ∃ fd, FunD K "is_one_of" "is_one_of" (defArgs s_is_one_of) (defBody s_is_one_of) (defScope s_is_one_of) [] [] (He.fAd K ("is_one_of", none)) fd := c.t.d.def_ 0 (d := dd ("is_one_of", none) "is_one_of" "is_one_of" s_is_one_of) rfl
  have g_is_one_of : GF P w K mg base 1 "is_one_of" P_is_one_of (spOneOf K) := ⟨_, _, (ok_is_one_of F_is_one_of T), He.glo_ok X G (c.t.d.fact 77 (f := .glo "is_one_of") rfl), F_is_one_of.kp, b_is_one_of F_is_one_of⟩
  obtain ⟨fd_need_field, F_need_field⟩ : ∃ fd, FunD K "need_field" "need_field" (defArgs s_need_field) (defBody s_need_field) (defScope s_need_field) [] [] (He.fAd K ("need_field", none)) fd := c.t.d.def_ 2 (d := dd ("need_field", none) "need_field" "need_field" s_need_field) rfl
  have g_need_field : GF P w K mg base 2 "need_field" P_need_field (spNeedField K) := ⟨_, _, (ok_need_field F_need_field T (g_is_one_of.mono (by decide))), He.glo_ok X G (c.t.d.fact 79 (f := .glo "need_field") rfl), F_need_field.kp, b_need_field F_need_field⟩
  obtain ⟨fd_are_bars, F_are_bars⟩ : ∃ fd, FunD K "are_bars" "are_bars" (defArgs s_are_bars) (defBody s_are_bars) (defScope s_are_bars) [] [] (He.fAd K ("are_bars", none)) fd := c.t.d.def_ 1 (d := dd ("are_bars", none) "are_bars" "are_bars" s_are_bars) rfl
  have g_are_bars : GF P w K mg base 3 "are_bars" P_are_bars (spAreBars K) := ⟨_, _, (ok_are_bars F_are_bars T (g_is_one_of.mono (by decide))), He.glo_ok X G (c.t.d.fact 78 (f := .glo "are_bars") rfl), F_are_bars.kp, b_are_bars F_are_bars⟩
  obtain ⟨fd_is_part_name, F_is_part_name⟩ : ∃ fd, FunD K "is_part_name" "is_part_name" (defArgs s_is_part_name) (defBody s_is_part_name) (defScope s_is_part_name) [] [] (He.fAd K ("is_part_name", none)) fd := c.t.d.def_ 5 (d := dd ("is_part_name", none) "is_part_name" "is_part_name" s_is_part_name) rfl
  have g_is_part_name : GF P w K mg base 1 "is_part_name" P_is_part_name spPartName := ⟨_, _, (ok_is_part_name F_is_part_name T), He.glo_ok X G (c.t.d.fact 82 (f := .glo "is_part_name") rfl), F_is_part_name.kp, b_is_part_name F_is_part_name⟩
  obtain ⟨fd_is_want, F_is_want⟩ : ∃ fd, FunD K "is_want" "is_want" (defArgs s_is_want) (defBody s_is_want) (defScope s_is_want) [] [] (He.fAd K ("is_want", none)) fd := c.t.d.def_ 6 (d := dd ("is_want", none) "is_want" "is_want" s_is_want) rfl
  have g_is_want : GF P w K mg base 2 "is_want" P_is_want spIsWant := ⟨_, _, (ok_is_want F_is_want T (g_is_part_name.mono (by decide))), He.glo_ok X G (c.t.d.fact 83 (f := .glo "is_want") rfl), F_is_want.kp, b_is_want F_is_want⟩
  obtain ⟨fd_are_wants, F_are_wants⟩ : ∃ fd, FunD K "are_wants" "are_wants" (defArgs s_are_wants) (defBody s_are_wants) (defScope s_are_wants) [] [] (He.fAd K ("are_wants", none)) fd := c.t.d.def_ 7 (d := dd ("are_wants", none) "are_wants" "are_wants" s_are_wants) rfl
  have g_are_wants : GF P w K mg base 3 "are_wants" P_are_wants spAreWants := ⟨_, _, (ok_are_wants F_are_wants T (g_is_want.mono (by decide))), He.glo_ok X G (c.t.d.fact 84 (f := .glo "are_wants") rfl), F_are_wants.kp, b_are_wants F_are_wants⟩
  obtain ⟨fd_are_named, F_are_named⟩ : ∃ fd, FunD K "are_named" "are_named" (defArgs s_are_named) (defBody s_are_named) (defScope s_are_named) [] [] (He.fAd K ("are_named", none)) fd := c.t.d.def_ 8 (d := dd ("are_named", none) "are_named" "are_named" s_are_named) rfl
  have g_are_named : GF P w K mg base 2 "are_named" P_are_named spAreNamed := ⟨_, _, (ok_are_named F_are_named T (g_is_part_name.mono (by decide))), He.glo_ok X G (c.t.d.fact 85 (f := .glo "are_named") rfl), F_are_named.kp, b_are_named F_are_named⟩
  obtain ⟨fd_is_fitting, F_is_fitting⟩ : ∃ fd, FunD K "is_fitting" "is_fitting" (defArgs s_is_fitting) (defBody s_is_fitting) (defScope s_is_fitting) [] [] (He.fAd K ("is_fitting", none)) fd := c.t.d.def_ 9 (d := dd ("is_fitting", none) "is_fitting" "is_fitting" s_is_fitting) rfl
  have g_is_fitting : GF P w K mg base 3 "is_fitting" P_is_fitting (spFitting K) := ⟨_, _, (ok_is_fitting F_is_fitting T OPart p_Part_life p_Part_wants), He.glo_ok X G (c.t.d.fact 86 (f := .glo "is_fitting") rfl), F_is_fitting.kp, b_is_fitting F_is_fitting⟩
  obtain ⟨fd_wanted_by, F_wanted_by⟩ : ∃ fd, FunD K "wanted_by" "wanted_by" (defArgs s_wanted_by) (defBody s_wanted_by) (defScope s_wanted_by) [] [] (He.fAd K ("wanted_by", none)) fd := c.t.d.def_ 10 (d := dd ("wanted_by", none) "wanted_by" "wanted_by" s_wanted_by) rfl
  have g_wanted_by : GF P w K mg base 3 "wanted_by" P_wanted_by (spWantedBy K) := ⟨_, _, (ok_wanted_by F_wanted_by T p_Part_wants), He.glo_ok X G (c.t.d.fact 87 (f := .glo "wanted_by") rfl), F_wanted_by.kp, b_wanted_by F_wanted_by⟩
  obtain ⟨fd_Part___init__, F_Part___init__⟩ : ∃ fd, FunD K "__init__" "Part.__init__" (defArgs s_Part___init__) (defBody s_Part___init__) (defScope s_Part___init__) [.ref (He.dflAt ("Part", some "__init__") 0 K)] [] (He.fAd K ("Part", some "__init__")) fd := c.t.d.def_ 36 (d := { dd ("Part", some "__init__") "__init__" "Part.__init__" s_Part___init__ with dfl := [.adr (He.dflAt ("Part", some "__init__") 0)] }) rfl
  have k_Part : GC P w K mg base 5 "Part" (CPart K) P_Part___init__ (spPartInit K) := ⟨_, _, (ok_Part___init__ F_Part___init__ T (g_is_number.mono (by decide)) (g_are_wants.mono (by decide))), T.g_Part, He.mkr_ok (c.t.d.fact 25 (f := .mkr "Part") rfl), b_Part_init rfl F_Part___init__⟩
  obtain ⟨fd_Parts___init__, F_Parts___init__⟩ : ∃ fd, FunD K "__init__" "Parts.__init__" (defArgs s_Parts___init__) (defBody s_Parts___init__) (defScope s_Parts___init__) [] [] (He.fAd K ("Parts", some "__init__")) fd := c.t.d.def_ 37 (d := dd ("Parts", some "__init__") "__init__" "Parts.__init__" s_Parts___init__) rfl
  have k_Parts : GC P w K mg base 5 "Parts" (CParts K) P_Parts___init__ (spPartsInit K) := ⟨_, _, (ok_Parts___init__ F_Parts___init__ T (g_is_number.mono (by decide)) (g_are_named.mono (by decide)) (g_is_fitting.mono (by decide)) (g_wanted_by.mono (by decide))), T.g_Parts, He.mkr_ok (c.t.d.fact 30 (f := .mkr "Parts") rfl), b_Parts___init__ F_Parts___init__⟩
  obtain ⟨fd_Book___init__, F_Book___init__⟩ : ∃ fd, FunD K "__init__" "Book.__init__" (defArgs s_Book___init__) (defBody s_Book___init__) (defScope s_Book___init__) [] [("held", .str "home")] (He.fAd K ("Book", some "__init__")) fd := c.t.d.def_ 35 (d := { dd ("Book", some "__init__") "__init__" "Book.__init__" s_Book___init__ with kwd := [("held", .str "home")] }) rfl
  have k_Book : GBk P w K mg base 5 := ⟨_, _, (ok_Book___init__ F_Book___init__ T (g_need_field.mono (by decide)) (g_are_bars.mono (by decide))), T.g_Book, He.mkr_ok (c.t.d.fact 2 (f := .mkr "Book") rfl), b_Book_init (kws := [("held", .str "home")]) (List.cons_ne_nil _ _) F_Book___init__⟩
  obtain ⟨fd__law_mixed, F__law_mixed⟩ : ∃ fd, FunD K "_law_mixed" "_law_mixed" (defArgs s__law_mixed) (defBody s__law_mixed) (defScope s__law_mixed) [] [] (He.fAd K ("_law_mixed", none)) fd := c.t.d.def_ 20 (d := dd ("_law_mixed", none) "_law_mixed" "_law_mixed" s__law_mixed) rfl
  have g__law_mixed : GF P w K mg base 1 "_law_mixed" P__law_mixed spMixed := ⟨_, _, (ok__law_mixed F__law_mixed T), He.glo_ok X G (c.t.d.fact 97 (f := .glo "_law_mixed") rfl), F__law_mixed.kp, b__law_mixed F__law_mixed⟩
  obtain ⟨fd__law_take, F__law_take⟩ : ∃ fd, FunD K "_law_take" "_law_take" (defArgs s__law_take) (defBody s__law_take) (defScope s__law_take) [] [] (He.fAd K ("_law_take", none)) fd := c.t.d.def_ 21 (d := dd ("_law_take", none) "_law_take" "_law_take" s__law_take) rfl
  have g__law_take : GF P w K mg base 2 "_law_take" P__law_take spTake := ⟨_, _, (ok__law_take F__law_take T (g__law_mixed.mono (by decide))), He.glo_ok X G (c.t.d.fact 98 (f := .glo "_law_take") rfl), F__law_take.kp, b__law_take F__law_take⟩
  obtain ⟨fd__law_pick, F__law_pick⟩ : ∃ fd, FunD K "_law_pick" "_law_pick" (defArgs s__law_pick) (defBody s__law_pick) (defScope s__law_pick) [] [] (He.fAd K ("_law_pick", none)) fd := c.t.d.def_ 22 (d := dd ("_law_pick", none) "_law_pick" "_law_pick" s__law_pick) rfl
  have g__law_pick : GF P w K mg base 3 "_law_pick" P__law_pick (spPick K) := ⟨_, _, (ok__law_pick F__law_pick T (g__law_take.mono (by decide))), He.glo_ok X G (c.t.d.fact 99 (f := .glo "_law_pick") rfl), F__law_pick.kp, b__law_pick F__law_pick⟩
  obtain ⟨fd__law_begun, F__law_begun⟩ : ∃ fd, FunD K "_law_begun" "_law_begun" (defArgs s__law_begun) (defBody s__law_begun) (defScope s__law_begun) [] [] (He.fAd K ("_law_begun", none)) fd := c.t.d.def_ 19 (d := dd ("_law_begun", none) "_law_begun" "_law_begun" s__law_begun) rfl
  have g__law_begun : GF P w K mg base 1 "_law_begun" P__law_begun (spBegun K) := ⟨_, _, (ok__law_begun F__law_begun T), He.glo_ok X G (c.t.d.fact 96 (f := .glo "_law_begun") rfl), F__law_begun.kp, b__law_begun F__law_begun⟩
  obtain ⟨fd__law_shuffled, F__law_shuffled⟩ : ∃ fd, FunD K "_law_shuffled" "_law_shuffled" (defArgs s__law_shuffled) (defBody s__law_shuffled) (defScope s__law_shuffled) [] [] (He.fAd K ("_law_shuffled", none)) fd := c.t.d.def_ 23 (d := dd ("_law_shuffled", none) "_law_shuffled" "_law_shuffled" s__law_shuffled) rfl
  have g__law_shuffled : GF P w K mg base 3 "_law_shuffled" P__law_shuffled spShuffled := ⟨_, _, (ok__law_shuffled F__law_shuffled T (g__law_take.mono (by decide))), He.glo_ok X G (c.t.d.fact 100 (f := .glo "_law_shuffled") rfl), F__law_shuffled.kp, b__law_shuffled F__law_shuffled⟩
  obtain ⟨fd__law_drawn_fields, F__law_drawn_fields⟩ : ∃ fd, FunD K "_law_drawn_fields" "_law_drawn_fields" (defArgs s__law_drawn_fields) (defBody s__law_drawn_fields) (defScope s__law_drawn_fields) [] [] (He.fAd K ("_law_drawn_fields", none)) fd := c.t.d.def_ 24 (d := dd ("_law_drawn_fields", none) "_law_drawn_fields" "_law_drawn_fields" s__law_drawn_fields) rfl
  have g__law_drawn_fields : GF P w K mg base 4 "_law_drawn_fields" P__law_drawn_fields spFields := ⟨_, _, (ok__law_drawn_fields F__law_drawn_fields T (g__law_pick.mono (by decide))), He.glo_ok X G (c.t.d.fact 101 (f := .glo "_law_drawn_fields") rfl), F__law_drawn_fields.kp, b__law_drawn_fields F__law_drawn_fields⟩
  obtain ⟨fd__law_book, F__law_book⟩ : ∃ fd, FunD K "_law_book" "_law_book" (defArgs s__law_book) (defBody s__law_book) (defScope s__law_book) [] [] (He.fAd K ("_law_book", none)) fd := c.t.d.def_ 25 (d := dd ("_law_book", none) "_law_book" "_law_book" s__law_book) rfl
  have g__law_book : GF P w K mg base 7 "_law_book" P__law_book (spBookOf K) := ⟨_, _, (ok__law_book F__law_book T k_Book), He.glo_ok X G (c.t.d.fact 102 (f := .glo "_law_book") rfl), F__law_book.kp, b__law_book F__law_book⟩
  obtain ⟨fd__law_parts, F__law_parts⟩ : ∃ fd, FunD K "_law_parts" "_law_parts" (defArgs s__law_parts) (defBody s__law_parts) (defScope s__law_parts) [] [] (He.fAd K ("_law_parts", none)) fd := c.t.d.def_ 26 (d := dd ("_law_parts", none) "_law_parts" "_law_parts" s__law_parts) rfl
  have g__law_parts : GF P w K mg base 7 "_law_parts" P__law_parts (spPartsOf K) := ⟨_, _, (ok__law_parts F__law_parts T (k_Part.mono (by decide)) (k_Parts.mono (by decide))), He.glo_ok X G (c.t.d.fact 103 (f := .glo "_law_parts") rfl), F__law_parts.kp, b__law_parts F__law_parts⟩
  obtain ⟨fd__law_small_parts, F__law_small_parts⟩ : ∃ fd, FunD K "_law_small_parts" "_law_small_parts" (defArgs s__law_small_parts) (defBody s__law_small_parts) (defScope s__law_small_parts) [] [] (He.fAd K ("_law_small_parts", none)) fd := c.t.d.def_ 28 (d := dd ("_law_small_parts", none) "_law_small_parts" "_law_small_parts" s__law_small_parts) rfl
  have g__law_small_parts : GF P w K mg base 5 "_law_small_parts" P__law_small_parts spSmall := ⟨_, _, (ok__law_small_parts F__law_small_parts T (g__law_take.mono (by decide)) (g__law_pick.mono (by decide)) (g__law_shuffled.mono (by decide))), He.glo_ok X G (c.t.d.fact 105 (f := .glo "_law_small_parts") rfl), F__law_small_parts.kp, b__law_small_parts F__law_small_parts⟩
  obtain ⟨fd__law_begun_deeds, F__law_begun_deeds⟩ : ∃ fd, FunD K "_law_begun_deeds" "_law_begun_deeds" (defArgs s__law_begun_deeds) (defBody s__law_begun_deeds) (defScope s__law_begun_deeds) [] [] (He.fAd K ("_law_begun_deeds", none)) fd := c.t.d.def_ 27 (d := dd ("_law_begun_deeds", none) "_law_begun_deeds" "_law_begun_deeds" s__law_begun_deeds) rfl
  have g__law_begun_deeds : GF P w K mg base 5 "_law_begun_deeds" P__law_begun_deeds spBegunDeeds := ⟨_, _, (ok__law_begun_deeds F__law_begun_deeds T (g__law_take.mono (by decide)) (g__law_pick.mono (by decide))), He.glo_ok X G (c.t.d.fact 104 (f := .glo "_law_begun_deeds") rfl), F__law_begun_deeds.kp, b__law_begun_deeds F__law_begun_deeds⟩
  obtain ⟨fd__law_level, F__law_level⟩ : ∃ fd, FunD K "_law_level" "_law_level" (defArgs s__law_level) (defBody s__law_level) (defScope s__law_level) [] [] (He.fAd K ("_law_level", none)) fd := c.t.d.def_ 30 (d := dd ("_law_level", none) "_law_level" "_law_level" s__law_level) rfl
  have g__law_level : GF P w K mg base 1 "_law_level" P__law_level spLevel := ⟨_, _, (ok__law_level F__law_level T), He.glo_ok X G (c.t.d.fact 107 (f := .glo "_law_level") rfl), F__law_level.kp, b__law_level F__law_level⟩
  obtain ⟨fd__law_shop_deed, F__law_shop_deed⟩ : ∃ fd, FunD K "_law_shop_deed" "_law_shop_deed" (defArgs s__law_shop_deed) (defBody s__law_shop_deed) (defScope s__law_shop_deed) [] [] (He.fAd K ("_law_shop_deed", none)) fd := c.t.d.def_ 29 (d := dd ("_law_shop_deed", none) "_law_shop_deed" "_law_shop_deed" s__law_shop_deed) rfl
  have g__law_shop_deed : GF P w K mg base 5 "_law_shop_deed" P__law_shop_deed (spShopDeed K) := ⟨_, _, (ok__law_shop_deed F__law_shop_deed T (g__law_take.mono (by decide)) (g__law_pick.mono (by decide)) (g__law_level.mono (by decide)) (p_Container_scopes.mono (by decide)) (m_Container_waiting.mono (by decide)) p_Container_book p_Container_parts p_Book_works (m_Parts_names.mono (by decide))), He.glo_ok X G (c.t.d.fact 106 (f := .glo "_law_shop_deed") rfl), F__law_shop_deed.kp, b__law_shop_deed F__law_shop_deed⟩
  obtain ⟨fd_played, F_played⟩ : ∃ fd, FunD K "played" "played" (defArgs s_played) (defBody s_played) (defScope s_played) [] [] (He.fAd K ("played", none)) fd := c.t.d.def_ 16 (d := dd ("played", none) "played" "played" s_played) rfl
  have g_played : GF P w K mg base 38 "played" P_played (spPlayed K) := ⟨_, _, (ok_played (k := 37) F_played T tLE (k_Container.mono (by decide)) (g_is_deed.mono (by decide)) (by decide) (m_Container_answer.mono (by decide))), He.glo_ok X G (c.t.d.fact 93 (f := .glo "played") rfl), F_played.kp, b_played F_played⟩
  obtain ⟨fd_replayed, F_replayed⟩ : ∃ fd, FunD K "replayed" "replayed" (defArgs s_replayed) (defBody s_replayed) (defScope s_replayed) [] [] (He.fAd K ("replayed", none)) fd := c.t.d.def_ 17 (d := dd ("replayed", none) "replayed" "replayed" s_replayed) rfl
  have g_replayed : GF P w K mg base 39 "replayed" P_replayed (spReplayed K) := ⟨_, _, (ok_replayed (k := 38) F_replayed T (g_played.mono (by decide))), He.glo_ok X G (c.t.d.fact 94 (f := .glo "replayed") rfl), F_replayed.kp, b_replayed F_replayed⟩
  obtain ⟨fd_answers_of, F_answers_of⟩ : ∃ fd, FunD K "answers_of" "answers_of" (defArgs s_answers_of) (defBody s_answers_of) (defScope s_answers_of) [] [] (He.fAd K ("answers_of", none)) fd := c.t.d.def_ 18 (d := dd ("answers_of", none) "answers_of" "answers_of" s_answers_of) rfl
  have g_answers_of : GF P w K mg base 39 "answers_of" P_answers_of (spAnswers K) := ⟨_, _, (ok_answers_of (k := 38) F_answers_of T (g_played.mono (by decide))), He.glo_ok X G (c.t.d.fact 95 (f := .glo "answers_of") rfl), F_answers_of.kp, b_answers_of F_answers_of⟩
  obtain ⟨fd__law_as_works, F__law_as_works⟩ : ∃ fd, FunD K "_law_as_works" "_law_as_works" (defArgs s__law_as_works) (defBody s__law_as_works) (defScope s__law_as_works) [] [] (He.fAd K ("_law_as_works", none)) fd := c.t.d.def_ 32 (d := dd ("_law_as_works", none) "_law_as_works" "_law_as_works" s__law_as_works) rfl
  have g__law_as_works : GF P w K mg base 1 "_law_as_works" P__law_as_works spAsWorks := ⟨_, _, (ok__law_as_works F__law_as_works T), He.glo_ok X G (c.t.d.fact 109 (f := .glo "_law_as_works") rfl), F__law_as_works.kp, b__law_as_works F__law_as_works⟩
  obtain ⟨fd__law_returned, F__law_returned⟩ : ∃ fd, FunD K "_law_returned" "_law_returned" (defArgs s__law_returned) (defBody s__law_returned) (defScope s__law_returned) [] [] (He.fAd K ("_law_returned", none)) fd := c.t.d.def_ 33 (d := dd ("_law_returned", none) "_law_returned" "_law_returned" s__law_returned) rfl
  have g__law_returned : GF P w K mg base 1 "_law_returned" P__law_returned spReturned := ⟨_, _, (ok__law_returned F__law_returned T), He.glo_ok X G (c.t.d.fact 110 (f := .glo "_law_returned") rfl), F__law_returned.kp, b__law_returned F__law_returned⟩
  obtain ⟨fd__law_deeds, F__law_deeds⟩ : ∃ fd, FunD K "_law_deeds" "_law_deeds" (defArgs s__law_deeds) (defBody s__law_deeds) (defScope s__law_deeds) [] [] (He.fAd K ("_law_deeds", none)) fd := c.t.d.def_ 31 (d := dd ("_law_deeds", none) "_law_deeds" "_law_deeds" s__law_deeds) rfl
  have g__law_deeds : GF P w K mg base 39 "_law_deeds" P__law_deeds (spDeeds K) := ⟨_, _, (ok__law_deeds (k := 38) (by decide) F__law_deeds T (k_Container.mono (by decide)) (g__law_begun_deeds.mono (by decide)) (g__law_shop_deed.mono (by decide)) (m_Container_do.mono (by decide))), He.glo_ok X G (c.t.d.fact 108 (f := .glo "_law_deeds") rfl), F__law_deeds.kp, b__law_deeds F__law_deeds⟩
  exact (ok_law (k := 39) (by decide) F_law T (g__law_begun.mono (by decide)) (g__law_take.mono (by decide)) (g__law_pick.mono (by decide)) (g__law_drawn_fields.mono (by decide)) (g__law_parts.mono (by decide)) (g__law_small_parts.mono (by decide)) (g__law_book.mono (by decide)) (g__law_deeds.mono (by decide)) (g__law_as_works.mono (by decide)) (g_replayed.mono (by decide)) (g__law_returned.mono (by decide)) (g_answers_of.mono (by decide)) (m_Container_things.mono (by decide)) (p_Container_scopes.mono (by decide)) (m_Container_waiting.mono (by decide)) (m_Container_faults.mono (by decide)))
theorem law_all {P : Program} {w : World} {K : PySem.W.Frag} {h : Heap} {mg : Str → Option Value} {fa : Addr} (X : K.In h) (G : h.Ns mainGlobals mg) (hfa : mg ("law" : Str) = some (.ref fa)) (c : Says w K) : ∃ fd : FuncData, (∀ (s : Shared) (v : Value), BindsTo s fd ⟨[v], []⟩ [("_law_script", v)]) ∧ ∀ base : Heap, K.In base → base.Ns mainGlobals mg → FnOk P w K mg base CX0 40 fa fd P_law (spLaw K) := by
  have e := hfa.symm.trans (He.glo_ok X G (c.t.d.fact 111 (f := .glo "law") rfl))
  cases e
  obtain ⟨fd, h1, h2⟩ := law_of (P := P) X G c
  exact ⟨fd, h1, fun base _ _ => h2 base⟩
end K94
set_option maxHeartbeats 0
/-! the claim -/
open PySem PySem.W PySem.Calls PyProof.Rows
theorem PySem.Challenge.cw_heldlives_k94_whole_uses_and_works_at_on_holds : PySem.Challenge.rw_heldlives_k94_whole_uses_and_works_at_on.Holds := by
  w_on; o_law
  refine HandSHeadRun.head_any (r := OpenLaw.row PySem.Challenge.rw_heldlives_k94_whole_uses_and_works_at_on) (q := view (OpenLaw.row PySem.Challenge.rw_heldlives_k94_whole_uses_and_works_at_on).prog [75]) (H := K94.hk) (ob := K94.hob) (M := 12000) (loose := K94.hnames) (d := HandSHeadRun.topDef (OpenLaw.row PySem.Challenge.rw_heldlives_k94_whole_uses_and_works_at_on).prog 75) (kwd := []) K94.hob_eq
    (by kernel_rfl) (fun s => by kernel_rfl) K94.run (by kernel_rfl) (by kernel_rfl) (by kernel_rfl) (by rfl) (by first | assumption | decide +kernel) (by decide +kernel) ⟨rfl, rfl, rfl, rfl, rfl, by decide +kernel⟩ ?hw ?hc
  case hw => w_witness2
  case hc =>
    refine L2.walk_ofE (l := PySem.Challenge.rw_heldlives_k94_whole_uses_and_works_at_on) (n := 63) (k := 40) (x := "_law_script") (CX := L2.CX0) rfl (by decide) (by kernel_rfl) ⟨rfl, by decide, by decide⟩ ?F (fun _ _ _ _ z => z)
    intro w mg fa h Y G hmg0
    obtain ⟨K, KX, c⟩ := Y
    have hmg : mg ("law" : PySem.Str) = some (.ref fa) := by
      have e : (HandSHeadRun.topDef (OpenLaw.row PySem.Challenge.rw_heldlives_k94_whole_uses_and_works_at_on).prog 75).name = ("law" : PySem.Str) := by kernel_rfl
      rw [← e]
      exact hmg0
    obtain ⟨fd, hb, hF⟩ := K94.law_all (P := (PySem.Challenge.rw_heldlives_k94_whole_uses_and_works_at_on).prog) (w := w) KX G hmg c
    exact ⟨K, fd, K94.spLaw K, KX, hb, fun H a ns hl _ hS => ⟨a, ns, rfl, hS, fun H' s => L2.Same.seq s hS, hl, fun _ => rfl⟩, hF⟩
