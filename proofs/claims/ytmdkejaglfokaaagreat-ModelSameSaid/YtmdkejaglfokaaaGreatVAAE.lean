import Derived.Test.YtmdkejaglfokaaaGreatVAAD
import Derived.Test.YtmdkejaglfokaaaGreatVAAC
noncomputable section
set_option maxHeartbeats 8000000
set_option linter.unusedSimpArgs false
set_option linter.unusedVariables false
namespace Go.Ev
noncomputable section
def g1A (d:Dg):Oct (Option AV)->Option AV :=
 Dg.rec (motive:=fun _=>Oct (Option AV)->Option AV) (fun r=>r.a) (fun r=>r.b) (fun r=>r.c) (fun r=>r.d) (fun r=>r.e) (fun r=>r.f) (fun r=>r.g) (fun r=>r.h) d
def p1A (d:Dg):Option AV->Oct (Option AV)->Oct (Option AV) :=
 Dg.rec (motive:=fun _=>Option AV->Oct (Option AV)->Oct (Option AV)) (fun x r=>Oct.rec (motive:=fun _=>Oct (Option AV)) (fun a b c d e f g h=>⟨x,b,c,d,e,f,g,h⟩) r) (fun x r=>Oct.rec (motive:=fun _=>Oct (Option AV)) (fun a b c d e f g h=>⟨a,x,c,d,e,f,g,h⟩) r) (fun x r=>Oct.rec (motive:=fun _=>Oct (Option AV)) (fun a b c d e f g h=>⟨a,b,x,d,e,f,g,h⟩) r) (fun x r=>Oct.rec (motive:=fun _=>Oct (Option AV)) (fun a b c d e f g h=>⟨a,b,c,x,e,f,g,h⟩) r) (fun x r=>Oct.rec (motive:=fun _=>Oct (Option AV)) (fun a b c d e f g h=>⟨a,b,c,d,x,f,g,h⟩) r) (fun x r=>Oct.rec (motive:=fun _=>Oct (Option AV)) (fun a b c d e f g h=>⟨a,b,c,d,e,x,g,h⟩) r) (fun x r=>Oct.rec (motive:=fun _=>Oct (Option AV)) (fun a b c d e f g h=>⟨a,b,c,d,e,f,x,h⟩) r) (fun x r=>Oct.rec (motive:=fun _=>Oct (Option AV)) (fun a b c d e f g h=>⟨a,b,c,d,e,f,g,x⟩) r) d
def g2A (d:Dg):Oct (Oct (Option AV))->Oct (Option AV) :=
 Dg.rec (motive:=fun _=>Oct (Oct (Option AV))->Oct (Option AV)) (fun r=>r.a) (fun r=>r.b) (fun r=>r.c) (fun r=>r.d) (fun r=>r.e) (fun r=>r.f) (fun r=>r.g) (fun r=>r.h) d
def p2A (d:Dg):Oct (Option AV)->Oct (Oct (Option AV))->Oct (Oct (Option AV)) :=
 Dg.rec (motive:=fun _=>Oct (Option AV)->Oct (Oct (Option AV))->Oct (Oct (Option AV))) (fun x r=>Oct.rec (motive:=fun _=>Oct (Oct (Option AV))) (fun p q s t u v w y=>Oct.rec (motive:=fun _=>Oct (Oct (Option AV))) (fun a b c d e f g h=>⟨⟨p,q,s,t,u,v,w,y⟩,b,c,d,e,f,g,h⟩) r) x) (fun x r=>Oct.rec (motive:=fun _=>Oct (Oct (Option AV))) (fun p q s t u v w y=>Oct.rec (motive:=fun _=>Oct (Oct (Option AV))) (fun a b c d e f g h=>⟨a,⟨p,q,s,t,u,v,w,y⟩,c,d,e,f,g,h⟩) r) x) (fun x r=>Oct.rec (motive:=fun _=>Oct (Oct (Option AV))) (fun p q s t u v w y=>Oct.rec (motive:=fun _=>Oct (Oct (Option AV))) (fun a b c d e f g h=>⟨a,b,⟨p,q,s,t,u,v,w,y⟩,d,e,f,g,h⟩) r) x) (fun x r=>Oct.rec (motive:=fun _=>Oct (Oct (Option AV))) (fun p q s t u v w y=>Oct.rec (motive:=fun _=>Oct (Oct (Option AV))) (fun a b c d e f g h=>⟨a,b,c,⟨p,q,s,t,u,v,w,y⟩,e,f,g,h⟩) r) x) (fun x r=>Oct.rec (motive:=fun _=>Oct (Oct (Option AV))) (fun p q s t u v w y=>Oct.rec (motive:=fun _=>Oct (Oct (Option AV))) (fun a b c d e f g h=>⟨a,b,c,d,⟨p,q,s,t,u,v,w,y⟩,f,g,h⟩) r) x) (fun x r=>Oct.rec (motive:=fun _=>Oct (Oct (Option AV))) (fun p q s t u v w y=>Oct.rec (motive:=fun _=>Oct (Oct (Option AV))) (fun a b c d e f g h=>⟨a,b,c,d,e,⟨p,q,s,t,u,v,w,y⟩,g,h⟩) r) x) (fun x r=>Oct.rec (motive:=fun _=>Oct (Oct (Option AV))) (fun p q s t u v w y=>Oct.rec (motive:=fun _=>Oct (Oct (Option AV))) (fun a b c d e f g h=>⟨a,b,c,d,e,f,⟨p,q,s,t,u,v,w,y⟩,h⟩) r) x) (fun x r=>Oct.rec (motive:=fun _=>Oct (Oct (Option AV))) (fun p q s t u v w y=>Oct.rec (motive:=fun _=>Oct (Oct (Option AV))) (fun a b c d e f g h=>⟨a,b,c,d,e,f,g,⟨p,q,s,t,u,v,w,y⟩⟩) r) x) d
def g1B (d:Dg):Oct (Option ABlk)->Option ABlk :=
 Dg.rec (motive:=fun _=>Oct (Option ABlk)->Option ABlk) (fun r=>r.a) (fun r=>r.b) (fun r=>r.c) (fun r=>r.d) (fun r=>r.e) (fun r=>r.f) (fun r=>r.g) (fun r=>r.h) d
def p1B (d:Dg):Option ABlk->Oct (Option ABlk)->Oct (Option ABlk) :=
 Dg.rec (motive:=fun _=>Option ABlk->Oct (Option ABlk)->Oct (Option ABlk)) (fun x r=>Oct.rec (motive:=fun _=>Oct (Option ABlk)) (fun a b c d e f g h=>⟨x,b,c,d,e,f,g,h⟩) r) (fun x r=>Oct.rec (motive:=fun _=>Oct (Option ABlk)) (fun a b c d e f g h=>⟨a,x,c,d,e,f,g,h⟩) r) (fun x r=>Oct.rec (motive:=fun _=>Oct (Option ABlk)) (fun a b c d e f g h=>⟨a,b,x,d,e,f,g,h⟩) r) (fun x r=>Oct.rec (motive:=fun _=>Oct (Option ABlk)) (fun a b c d e f g h=>⟨a,b,c,x,e,f,g,h⟩) r) (fun x r=>Oct.rec (motive:=fun _=>Oct (Option ABlk)) (fun a b c d e f g h=>⟨a,b,c,d,x,f,g,h⟩) r) (fun x r=>Oct.rec (motive:=fun _=>Oct (Option ABlk)) (fun a b c d e f g h=>⟨a,b,c,d,e,x,g,h⟩) r) (fun x r=>Oct.rec (motive:=fun _=>Oct (Option ABlk)) (fun a b c d e f g h=>⟨a,b,c,d,e,f,x,h⟩) r) (fun x r=>Oct.rec (motive:=fun _=>Oct (Option ABlk)) (fun a b c d e f g h=>⟨a,b,c,d,e,f,g,x⟩) r) d
def g2B (d:Dg):Oct (Oct (Option ABlk))->Oct (Option ABlk) :=
 Dg.rec (motive:=fun _=>Oct (Oct (Option ABlk))->Oct (Option ABlk)) (fun r=>r.a) (fun r=>r.b) (fun r=>r.c) (fun r=>r.d) (fun r=>r.e) (fun r=>r.f) (fun r=>r.g) (fun r=>r.h) d
def p2B (d:Dg):Oct (Option ABlk)->Oct (Oct (Option ABlk))->Oct (Oct (Option ABlk)) :=
 Dg.rec (motive:=fun _=>Oct (Option ABlk)->Oct (Oct (Option ABlk))->Oct (Oct (Option ABlk))) (fun x r=>Oct.rec (motive:=fun _=>Oct (Oct (Option ABlk))) (fun p q s t u v w y=>Oct.rec (motive:=fun _=>Oct (Oct (Option ABlk))) (fun a b c d e f g h=>⟨⟨p,q,s,t,u,v,w,y⟩,b,c,d,e,f,g,h⟩) r) x) (fun x r=>Oct.rec (motive:=fun _=>Oct (Oct (Option ABlk))) (fun p q s t u v w y=>Oct.rec (motive:=fun _=>Oct (Oct (Option ABlk))) (fun a b c d e f g h=>⟨a,⟨p,q,s,t,u,v,w,y⟩,c,d,e,f,g,h⟩) r) x) (fun x r=>Oct.rec (motive:=fun _=>Oct (Oct (Option ABlk))) (fun p q s t u v w y=>Oct.rec (motive:=fun _=>Oct (Oct (Option ABlk))) (fun a b c d e f g h=>⟨a,b,⟨p,q,s,t,u,v,w,y⟩,d,e,f,g,h⟩) r) x) (fun x r=>Oct.rec (motive:=fun _=>Oct (Oct (Option ABlk))) (fun p q s t u v w y=>Oct.rec (motive:=fun _=>Oct (Oct (Option ABlk))) (fun a b c d e f g h=>⟨a,b,c,⟨p,q,s,t,u,v,w,y⟩,e,f,g,h⟩) r) x) (fun x r=>Oct.rec (motive:=fun _=>Oct (Oct (Option ABlk))) (fun p q s t u v w y=>Oct.rec (motive:=fun _=>Oct (Oct (Option ABlk))) (fun a b c d e f g h=>⟨a,b,c,d,⟨p,q,s,t,u,v,w,y⟩,f,g,h⟩) r) x) (fun x r=>Oct.rec (motive:=fun _=>Oct (Oct (Option ABlk))) (fun p q s t u v w y=>Oct.rec (motive:=fun _=>Oct (Oct (Option ABlk))) (fun a b c d e f g h=>⟨a,b,c,d,e,⟨p,q,s,t,u,v,w,y⟩,g,h⟩) r) x) (fun x r=>Oct.rec (motive:=fun _=>Oct (Oct (Option ABlk))) (fun p q s t u v w y=>Oct.rec (motive:=fun _=>Oct (Oct (Option ABlk))) (fun a b c d e f g h=>⟨a,b,c,d,e,f,⟨p,q,s,t,u,v,w,y⟩,h⟩) r) x) (fun x r=>Oct.rec (motive:=fun _=>Oct (Oct (Option ABlk))) (fun p q s t u v w y=>Oct.rec (motive:=fun _=>Oct (Oct (Option ABlk))) (fun a b c d e f g h=>⟨a,b,c,d,e,f,g,⟨p,q,s,t,u,v,w,y⟩⟩) r) x) d
def g3B (d:Dg):Oct (Oct (Oct (Option ABlk)))->Oct (Oct (Option ABlk)) :=
 Dg.rec (motive:=fun _=>Oct (Oct (Oct (Option ABlk)))->Oct (Oct (Option ABlk))) (fun r=>r.a) (fun r=>r.b) (fun r=>r.c) (fun r=>r.d) (fun r=>r.e) (fun r=>r.f) (fun r=>r.g) (fun r=>r.h) d
def p3B (d:Dg):Oct (Oct (Option ABlk))->Oct (Oct (Oct (Option ABlk)))->Oct (Oct (Oct (Option ABlk))) :=
 Dg.rec (motive:=fun _=>Oct (Oct (Option ABlk))->Oct (Oct (Oct (Option ABlk)))->Oct (Oct (Oct (Option ABlk)))) (fun x r=>Oct.rec (motive:=fun _=>Oct (Oct (Oct (Option ABlk)))) (fun p q s t u v w y=>Oct.rec (motive:=fun _=>Oct (Oct (Oct (Option ABlk)))) (fun a b c d e f g h=>⟨⟨p,q,s,t,u,v,w,y⟩,b,c,d,e,f,g,h⟩) r) x) (fun x r=>Oct.rec (motive:=fun _=>Oct (Oct (Oct (Option ABlk)))) (fun p q s t u v w y=>Oct.rec (motive:=fun _=>Oct (Oct (Oct (Option ABlk)))) (fun a b c d e f g h=>⟨a,⟨p,q,s,t,u,v,w,y⟩,c,d,e,f,g,h⟩) r) x) (fun x r=>Oct.rec (motive:=fun _=>Oct (Oct (Oct (Option ABlk)))) (fun p q s t u v w y=>Oct.rec (motive:=fun _=>Oct (Oct (Oct (Option ABlk)))) (fun a b c d e f g h=>⟨a,b,⟨p,q,s,t,u,v,w,y⟩,d,e,f,g,h⟩) r) x) (fun x r=>Oct.rec (motive:=fun _=>Oct (Oct (Oct (Option ABlk)))) (fun p q s t u v w y=>Oct.rec (motive:=fun _=>Oct (Oct (Oct (Option ABlk)))) (fun a b c d e f g h=>⟨a,b,c,⟨p,q,s,t,u,v,w,y⟩,e,f,g,h⟩) r) x) (fun x r=>Oct.rec (motive:=fun _=>Oct (Oct (Oct (Option ABlk)))) (fun p q s t u v w y=>Oct.rec (motive:=fun _=>Oct (Oct (Oct (Option ABlk)))) (fun a b c d e f g h=>⟨a,b,c,d,⟨p,q,s,t,u,v,w,y⟩,f,g,h⟩) r) x) (fun x r=>Oct.rec (motive:=fun _=>Oct (Oct (Oct (Option ABlk)))) (fun p q s t u v w y=>Oct.rec (motive:=fun _=>Oct (Oct (Oct (Option ABlk)))) (fun a b c d e f g h=>⟨a,b,c,d,e,⟨p,q,s,t,u,v,w,y⟩,g,h⟩) r) x) (fun x r=>Oct.rec (motive:=fun _=>Oct (Oct (Oct (Option ABlk)))) (fun p q s t u v w y=>Oct.rec (motive:=fun _=>Oct (Oct (Oct (Option ABlk)))) (fun a b c d e f g h=>⟨a,b,c,d,e,f,⟨p,q,s,t,u,v,w,y⟩,h⟩) r) x) (fun x r=>Oct.rec (motive:=fun _=>Oct (Oct (Oct (Option ABlk)))) (fun p q s t u v w y=>Oct.rec (motive:=fun _=>Oct (Oct (Oct (Option ABlk)))) (fun a b c d e f g h=>⟨a,b,c,d,e,f,g,⟨p,q,s,t,u,v,w,y⟩⟩) r) x) d
def g4B (d:Dg):Oct (Oct (Oct (Oct (Option ABlk))))->Oct (Oct (Oct (Option ABlk))) :=
 Dg.rec (motive:=fun _=>Oct (Oct (Oct (Oct (Option ABlk))))->Oct (Oct (Oct (Option ABlk)))) (fun r=>r.a) (fun r=>r.b) (fun r=>r.c) (fun r=>r.d) (fun r=>r.e) (fun r=>r.f) (fun r=>r.g) (fun r=>r.h) d
def p4B (d:Dg):Oct (Oct (Oct (Option ABlk)))->Oct (Oct (Oct (Oct (Option ABlk))))->Oct (Oct (Oct (Oct (Option ABlk)))) :=
 Dg.rec (motive:=fun _=>Oct (Oct (Oct (Option ABlk)))->Oct (Oct (Oct (Oct (Option ABlk))))->Oct (Oct (Oct (Oct (Option ABlk))))) (fun x r=>Oct.rec (motive:=fun _=>Oct (Oct (Oct (Oct (Option ABlk))))) (fun p q s t u v w y=>Oct.rec (motive:=fun _=>Oct (Oct (Oct (Oct (Option ABlk))))) (fun a b c d e f g h=>⟨⟨p,q,s,t,u,v,w,y⟩,b,c,d,e,f,g,h⟩) r) x) (fun x r=>Oct.rec (motive:=fun _=>Oct (Oct (Oct (Oct (Option ABlk))))) (fun p q s t u v w y=>Oct.rec (motive:=fun _=>Oct (Oct (Oct (Oct (Option ABlk))))) (fun a b c d e f g h=>⟨a,⟨p,q,s,t,u,v,w,y⟩,c,d,e,f,g,h⟩) r) x) (fun x r=>Oct.rec (motive:=fun _=>Oct (Oct (Oct (Oct (Option ABlk))))) (fun p q s t u v w y=>Oct.rec (motive:=fun _=>Oct (Oct (Oct (Oct (Option ABlk))))) (fun a b c d e f g h=>⟨a,b,⟨p,q,s,t,u,v,w,y⟩,d,e,f,g,h⟩) r) x) (fun x r=>Oct.rec (motive:=fun _=>Oct (Oct (Oct (Oct (Option ABlk))))) (fun p q s t u v w y=>Oct.rec (motive:=fun _=>Oct (Oct (Oct (Oct (Option ABlk))))) (fun a b c d e f g h=>⟨a,b,c,⟨p,q,s,t,u,v,w,y⟩,e,f,g,h⟩) r) x) (fun x r=>Oct.rec (motive:=fun _=>Oct (Oct (Oct (Oct (Option ABlk))))) (fun p q s t u v w y=>Oct.rec (motive:=fun _=>Oct (Oct (Oct (Oct (Option ABlk))))) (fun a b c d e f g h=>⟨a,b,c,d,⟨p,q,s,t,u,v,w,y⟩,f,g,h⟩) r) x) (fun x r=>Oct.rec (motive:=fun _=>Oct (Oct (Oct (Oct (Option ABlk))))) (fun p q s t u v w y=>Oct.rec (motive:=fun _=>Oct (Oct (Oct (Oct (Option ABlk))))) (fun a b c d e f g h=>⟨a,b,c,d,e,⟨p,q,s,t,u,v,w,y⟩,g,h⟩) r) x) (fun x r=>Oct.rec (motive:=fun _=>Oct (Oct (Oct (Oct (Option ABlk))))) (fun p q s t u v w y=>Oct.rec (motive:=fun _=>Oct (Oct (Oct (Oct (Option ABlk))))) (fun a b c d e f g h=>⟨a,b,c,d,e,f,⟨p,q,s,t,u,v,w,y⟩,h⟩) r) x) (fun x r=>Oct.rec (motive:=fun _=>Oct (Oct (Oct (Oct (Option ABlk))))) (fun p q s t u v w y=>Oct.rec (motive:=fun _=>Oct (Oct (Oct (Oct (Option ABlk))))) (fun a b c d e f g h=>⟨a,b,c,d,e,f,g,⟨p,q,s,t,u,v,w,y⟩⟩) r) x) d
def g5B (d:Dg):Oct (Oct (Oct (Oct (Oct (Option ABlk)))))->Oct (Oct (Oct (Oct (Option ABlk)))) :=
 Dg.rec (motive:=fun _=>Oct (Oct (Oct (Oct (Oct (Option ABlk)))))->Oct (Oct (Oct (Oct (Option ABlk))))) (fun r=>r.a) (fun r=>r.b) (fun r=>r.c) (fun r=>r.d) (fun r=>r.e) (fun r=>r.f) (fun r=>r.g) (fun r=>r.h) d
def p5B (d:Dg):Oct (Oct (Oct (Oct (Option ABlk))))->Oct (Oct (Oct (Oct (Oct (Option ABlk)))))->Oct (Oct (Oct (Oct (Oct (Option ABlk))))) :=
 Dg.rec (motive:=fun _=>Oct (Oct (Oct (Oct (Option ABlk))))->Oct (Oct (Oct (Oct (Oct (Option ABlk)))))->Oct (Oct (Oct (Oct (Oct (Option ABlk)))))) (fun x r=>Oct.rec (motive:=fun _=>Oct (Oct (Oct (Oct (Oct (Option ABlk)))))) (fun p q s t u v w y=>Oct.rec (motive:=fun _=>Oct (Oct (Oct (Oct (Oct (Option ABlk)))))) (fun a b c d e f g h=>⟨⟨p,q,s,t,u,v,w,y⟩,b,c,d,e,f,g,h⟩) r) x) (fun x r=>Oct.rec (motive:=fun _=>Oct (Oct (Oct (Oct (Oct (Option ABlk)))))) (fun p q s t u v w y=>Oct.rec (motive:=fun _=>Oct (Oct (Oct (Oct (Oct (Option ABlk)))))) (fun a b c d e f g h=>⟨a,⟨p,q,s,t,u,v,w,y⟩,c,d,e,f,g,h⟩) r) x) (fun x r=>Oct.rec (motive:=fun _=>Oct (Oct (Oct (Oct (Oct (Option ABlk)))))) (fun p q s t u v w y=>Oct.rec (motive:=fun _=>Oct (Oct (Oct (Oct (Oct (Option ABlk)))))) (fun a b c d e f g h=>⟨a,b,⟨p,q,s,t,u,v,w,y⟩,d,e,f,g,h⟩) r) x) (fun x r=>Oct.rec (motive:=fun _=>Oct (Oct (Oct (Oct (Oct (Option ABlk)))))) (fun p q s t u v w y=>Oct.rec (motive:=fun _=>Oct (Oct (Oct (Oct (Oct (Option ABlk)))))) (fun a b c d e f g h=>⟨a,b,c,⟨p,q,s,t,u,v,w,y⟩,e,f,g,h⟩) r) x) (fun x r=>Oct.rec (motive:=fun _=>Oct (Oct (Oct (Oct (Oct (Option ABlk)))))) (fun p q s t u v w y=>Oct.rec (motive:=fun _=>Oct (Oct (Oct (Oct (Oct (Option ABlk)))))) (fun a b c d e f g h=>⟨a,b,c,d,⟨p,q,s,t,u,v,w,y⟩,f,g,h⟩) r) x) (fun x r=>Oct.rec (motive:=fun _=>Oct (Oct (Oct (Oct (Oct (Option ABlk)))))) (fun p q s t u v w y=>Oct.rec (motive:=fun _=>Oct (Oct (Oct (Oct (Oct (Option ABlk)))))) (fun a b c d e f g h=>⟨a,b,c,d,e,⟨p,q,s,t,u,v,w,y⟩,g,h⟩) r) x) (fun x r=>Oct.rec (motive:=fun _=>Oct (Oct (Oct (Oct (Oct (Option ABlk)))))) (fun p q s t u v w y=>Oct.rec (motive:=fun _=>Oct (Oct (Oct (Oct (Oct (Option ABlk)))))) (fun a b c d e f g h=>⟨a,b,c,d,e,f,⟨p,q,s,t,u,v,w,y⟩,h⟩) r) x) (fun x r=>Oct.rec (motive:=fun _=>Oct (Oct (Oct (Oct (Oct (Option ABlk)))))) (fun p q s t u v w y=>Oct.rec (motive:=fun _=>Oct (Oct (Oct (Oct (Oct (Option ABlk)))))) (fun a b c d e f g h=>⟨a,b,c,d,e,f,g,⟨p,q,s,t,u,v,w,y⟩⟩) r) x) d
def g6B (d:Dg):Oct (Oct (Oct (Oct (Oct (Oct (Option ABlk))))))->Oct (Oct (Oct (Oct (Oct (Option ABlk))))) :=
 Dg.rec (motive:=fun _=>Oct (Oct (Oct (Oct (Oct (Oct (Option ABlk))))))->Oct (Oct (Oct (Oct (Oct (Option ABlk)))))) (fun r=>r.a) (fun r=>r.b) (fun r=>r.c) (fun r=>r.d) (fun r=>r.e) (fun r=>r.f) (fun r=>r.g) (fun r=>r.h) d
def p6B (d:Dg):Oct (Oct (Oct (Oct (Oct (Option ABlk)))))->Oct (Oct (Oct (Oct (Oct (Oct (Option ABlk))))))->Oct (Oct (Oct (Oct (Oct (Oct (Option ABlk)))))) :=
 Dg.rec (motive:=fun _=>Oct (Oct (Oct (Oct (Oct (Option ABlk)))))->Oct (Oct (Oct (Oct (Oct (Oct (Option ABlk))))))->Oct (Oct (Oct (Oct (Oct (Oct (Option ABlk))))))) (fun x r=>Oct.rec (motive:=fun _=>Oct (Oct (Oct (Oct (Oct (Oct (Option ABlk))))))) (fun p q s t u v w y=>Oct.rec (motive:=fun _=>Oct (Oct (Oct (Oct (Oct (Oct (Option ABlk))))))) (fun a b c d e f g h=>⟨⟨p,q,s,t,u,v,w,y⟩,b,c,d,e,f,g,h⟩) r) x) (fun x r=>Oct.rec (motive:=fun _=>Oct (Oct (Oct (Oct (Oct (Oct (Option ABlk))))))) (fun p q s t u v w y=>Oct.rec (motive:=fun _=>Oct (Oct (Oct (Oct (Oct (Oct (Option ABlk))))))) (fun a b c d e f g h=>⟨a,⟨p,q,s,t,u,v,w,y⟩,c,d,e,f,g,h⟩) r) x) (fun x r=>Oct.rec (motive:=fun _=>Oct (Oct (Oct (Oct (Oct (Oct (Option ABlk))))))) (fun p q s t u v w y=>Oct.rec (motive:=fun _=>Oct (Oct (Oct (Oct (Oct (Oct (Option ABlk))))))) (fun a b c d e f g h=>⟨a,b,⟨p,q,s,t,u,v,w,y⟩,d,e,f,g,h⟩) r) x) (fun x r=>Oct.rec (motive:=fun _=>Oct (Oct (Oct (Oct (Oct (Oct (Option ABlk))))))) (fun p q s t u v w y=>Oct.rec (motive:=fun _=>Oct (Oct (Oct (Oct (Oct (Oct (Option ABlk))))))) (fun a b c d e f g h=>⟨a,b,c,⟨p,q,s,t,u,v,w,y⟩,e,f,g,h⟩) r) x) (fun x r=>Oct.rec (motive:=fun _=>Oct (Oct (Oct (Oct (Oct (Oct (Option ABlk))))))) (fun p q s t u v w y=>Oct.rec (motive:=fun _=>Oct (Oct (Oct (Oct (Oct (Oct (Option ABlk))))))) (fun a b c d e f g h=>⟨a,b,c,d,⟨p,q,s,t,u,v,w,y⟩,f,g,h⟩) r) x) (fun x r=>Oct.rec (motive:=fun _=>Oct (Oct (Oct (Oct (Oct (Oct (Option ABlk))))))) (fun p q s t u v w y=>Oct.rec (motive:=fun _=>Oct (Oct (Oct (Oct (Oct (Oct (Option ABlk))))))) (fun a b c d e f g h=>⟨a,b,c,d,e,⟨p,q,s,t,u,v,w,y⟩,g,h⟩) r) x) (fun x r=>Oct.rec (motive:=fun _=>Oct (Oct (Oct (Oct (Oct (Oct (Option ABlk))))))) (fun p q s t u v w y=>Oct.rec (motive:=fun _=>Oct (Oct (Oct (Oct (Oct (Oct (Option ABlk))))))) (fun a b c d e f g h=>⟨a,b,c,d,e,f,⟨p,q,s,t,u,v,w,y⟩,h⟩) r) x) (fun x r=>Oct.rec (motive:=fun _=>Oct (Oct (Oct (Oct (Oct (Oct (Option ABlk))))))) (fun p q s t u v w y=>Oct.rec (motive:=fun _=>Oct (Oct (Oct (Oct (Oct (Oct (Option ABlk))))))) (fun a b c d e f g h=>⟨a,b,c,d,e,f,g,⟨p,q,s,t,u,v,w,y⟩⟩) r) x) d
def ofLoA (mid:Oct (Oct (Oct (Oct (Oct (Oct (Option AV))))))) (big:List (Nat×AV)) (lo:Oct (Oct (Option AV))):Tr AV :=
 Oct.rec (motive:=fun _=>Tr AV) (fun a b c d e f g h=>⟨⟨a,b,c,d,e,f,g,h⟩,mid,big⟩) lo
def zfl1 (x y:Dg) (t:Tr AV):Option AV:=g1A y (g2A x t.lo)
def setLoA (x y:Dg) (v:AV) (t:Tr AV):Tr AV :=
 Tr.rec (motive:=fun _=>Tr AV) (fun lo mid big=>ofLoA mid big (p2A x (p1A y (some v) (g2A x lo)) lo)) t
def ofLoB (mid:Oct (Oct (Oct (Oct (Oct (Oct (Option ABlk))))))) (big:List (Nat×ABlk)) (lo:Oct (Oct (Option ABlk))):Tr ABlk :=
 Oct.rec (motive:=fun _=>Tr ABlk) (fun a b c d e f g h=>⟨⟨a,b,c,d,e,f,g,h⟩,mid,big⟩) lo
def ofMidB (lo:Oct (Oct (Option ABlk))) (big:List (Nat×ABlk)) (mid:Oct (Oct (Oct (Oct (Oct (Oct (Option ABlk))))))):Tr ABlk :=
 Oct.rec (motive:=fun _=>Tr ABlk) (fun a b c d e f g h=>⟨lo,⟨a,b,c,d,e,f,g,h⟩,big⟩) mid
def getLoB (x y:Dg) (t:Tr ABlk):Option ABlk:=g1B y (g2B x t.lo)
def getMidB (u v w x y z:Dg) (t:Tr ABlk):Option ABlk:=g1B z (g2B y (g3B x (g4B w (g5B v (g6B u t.mid)))))
def setLoB (x y:Dg) (v:ABlk) (t:Tr ABlk):Tr ABlk :=
 Tr.rec (motive:=fun _=>Tr ABlk) (fun lo mid big=>ofLoB mid big (p2B x (p1B y (some v) (g2B x lo)) lo)) t
def setM1 (z:Dg) (a:ABlk) (m:Oct (Option ABlk)):Oct (Option ABlk):=p1B z (some a) m
def setM2 (y z:Dg) (a:ABlk) (m:Oct (Oct (Option ABlk))):Oct (Oct (Option ABlk)):=p2B y (setM1 z a (g2B y m)) m
def setM3 (x y z:Dg) (a:ABlk) (m:Oct (Oct (Oct (Option ABlk)))):Oct (Oct (Oct (Option ABlk))):=p3B x (setM2 y z a (g3B x m)) m
def setM4 (w x y z:Dg) (a:ABlk) (m:Oct (Oct (Oct (Oct (Option ABlk))))):Oct (Oct (Oct (Oct (Option ABlk)))):=p4B w (setM3 x y z a (g4B w m)) m
def setM5 (v w x y z:Dg) (a:ABlk) (m:Oct (Oct (Oct (Oct (Oct (Option ABlk)))))):Oct (Oct (Oct (Oct (Oct (Option ABlk))))):=p5B v (setM4 w x y z a (g5B v m)) m
def setM6 (u v w x y z:Dg) (a:ABlk) (m:Oct (Oct (Oct (Oct (Oct (Oct (Option ABlk))))))):Oct (Oct (Oct (Oct (Oct (Oct (Option ABlk)))))):=p6B u (setM5 v w x y z a (g6B u m)) m
def setMidB (u v w x y z:Dg) (a:ABlk) (t:Tr ABlk):Tr ABlk :=
 Tr.rec (motive:=fun _=>Tr ABlk) (fun lo mid big=>ofMidB lo big (setM6 u v w x y z a mid)) t
def getB (t:Tr ABlk) (k:Nat):Option ABlk :=
 brec (brec (Tr.getBig k t.big)
  (getMidB (dg (Nat.div k 32768)) (dg (Nat.mod (Nat.div k 4096) 8)) (dg (Nat.mod (Nat.div k 512) 8)) (dg (Nat.mod (Nat.div k 64) 8)) (dg (Nat.mod (Nat.div k 8) 8)) (dg (Nat.mod k 8)) t) (Nat.blt k 262144))
  (getLoB (dg (Nat.div k 8)) (dg (Nat.mod k 8)) t) (Nat.blt k 64)
def setB (t:Tr ABlk) (k:Nat) (x:ABlk):Tr ABlk :=
 brec (brec (Tr.setBig k x t)
  (setMidB (dg (Nat.div k 32768)) (dg (Nat.mod (Nat.div k 4096) 8)) (dg (Nat.mod (Nat.div k 512) 8)) (dg (Nat.mod (Nat.div k 64) 8)) (dg (Nat.mod (Nat.div k 8) 8)) (dg (Nat.mod k 8)) x t) (Nat.blt k 262144))
  (setLoB (dg (Nat.div k 8)) (dg (Nat.mod k 8)) x t) (Nat.blt k 64)
inductive S2 where
 |lo (x y:Dg)
 |hi (k:Nat)
inductive O2 where
 |lo (x y:Dg)
 |hi (k:Nat)
 |con (v:AV)
def dflt (o:Option AV):AV:=orec AV.undef (fun v=>v) o
def sOf (k:Nat):S2:=brec (.hi k) (.lo (dg (Nat.div k 8)) (dg (Nat.mod k 8))) (Nat.blt k 64)
def S2.get (s:S2):Tr AV->Option AV:=S2.rec (motive:=fun _=>Tr AV->Option AV) (fun x y T=>zfl1 x y T) (fun k T=>T.get k) s
def S2.set (s:S2):AV->Tr AV->Tr AV:=S2.rec (motive:=fun _=>AV->Tr AV->Tr AV) (fun x y v T=>setLoA x y v T) (fun k v T=>T.set k v) s
def O2.ev (o:O2):Tr AV->AV:=O2.rec (motive:=fun _=>Tr AV->AV) (fun x y T=>dflt (zfl1 x y T)) (fun k T=>dflt (T.get k)) (fun v _=>v) o
def opd (o:Operand):Option O2 :=
 match o with
 | .tmp t=>some (brec (.hi t) (.lo (dg (Nat.div t 8)) (dg (Nat.mod t 8))) (Nat.blt t 64))
 | .const v=>orec none (fun v=>some (.con v)) (ofValue v)
 | .global g=>some (.con (.ext 2 g 0))
 | .func f=>some (.con (.fn (.func f) [] []))
theorem zrk (k:Nat) (T:Tr AV):(sOf k).get T=T.get k:=by
 unfold sOf;by_cases h:k<64
 ·rw [Tr.blt_t h,Tr.get_lo _ h];rfl
 ·rw [Tr.blt_f h];rfl
theorem zny (k:Nat) (v:AV) (T:Tr AV):(sOf k).set v T=T.set k v:=by
 unfold sOf;by_cases h:k<64
 ·rw [Tr.blt_t h,Tr.set_lo _ _ h];rfl
 ·rw [Tr.blt_f h];rfl
theorem zna (T:Tr AV) (o:Operand):opnd T o=(match opd o with|some x=>some (x.ev T)|none=>none):=by
 cases o with
 |tmp t =>
  show (match T.get t with|some v=>some v|none=>some AV.undef)=some (O2.ev (brec _ _ (Nat.blt t 64)) T)
  by_cases h:t<64
  ·rw [Tr.blt_t h]
   show _=some (dflt (Tr.getLo (dg (t / 8)) (dg (t%8)) T))
   rw [← Tr.get_lo _ h];cases T.get t<;>rfl
  ·rw [Tr.blt_f h]
   show _=some (dflt (T.get t))
   cases T.get t<;>rfl
 |const v =>
  show ofValue v=match orec none (fun v=>some (O2.con v)) (ofValue v) with|some x=>some (x.ev T)|none=>none
  cases ofValue v<;>rfl
 |global g=>rfl
 |func f=>rfl
def hGet (H:AH) (i:Nat):Option ABlk:=lrec (β:=Option ABlk) (getB H.tree i) (fun _ _ _=>H.get i) H.hide
theorem zsk (H:AH) (i:Nat):hGet H i=H.get i:=by
 unfold hGet;cases h:H.hide with
 |nil=>show H.tree.get i=_;unfold AH.get AH.vis;rw [h];rfl
 |cons r l=>rfl
def blkC (n:Option Ce) (f:Ce->Option Ce) (b:ABlk):Option Ce :=
 ABlk.rec (motive:=fun _=>Option Ce->(Ce->Option Ce)->Option Ce) (fun vs _ _ _ _ _ f=>f vs) (fun _ _ n _=>n) (fun _ _ _ _ _ _ _ n _=>n) (fun n _=>n) (fun _ _ _ _ n _=>n) (fun _ _ n _=>n) (fun _ _ n _=>n) b n f
def blkA (n:Option AV) (f:Ce->TypeId->Nat->Bool->Bool->Option AV) (b:ABlk):Option AV :=
 ABlk.rec (motive:=fun _=>Option AV->(Ce->TypeId->Nat->Bool->Bool->Option AV)->Option AV) (fun vs e z op ro _ f=>f vs e z op ro) (fun _ _ n _=>n) (fun _ _ _ _ _ _ _ n _=>n) (fun n _=>n) (fun _ _ _ _ n _=>n) (fun _ _ n _=>n) (fun _ _ n _=>n) b n f
def blkH (n:Option AH) (f:Ce->TypeId->Nat->Bool->Bool->Option AH) (b:ABlk):Option AH :=
 ABlk.rec (motive:=fun _=>Option AH->(Ce->TypeId->Nat->Bool->Bool->Option AH)->Option AH) (fun vs e z op ro _ f=>f vs e z op ro) (fun _ _ n _=>n) (fun _ _ _ _ _ _ _ n _=>n) (fun n _=>n) (fun _ _ _ _ n _=>n) (fun _ _ n _=>n) (fun _ _ n _=>n) b n f
def hPut (H:AH) (i:Nat) (b:ABlk):AH:=AH.rec (motive:=fun _=>AH) (fun tree next lo hide fz=>⟨setB tree i b,next,lo,hide,fz⟩) H
theorem zgp (H:AH) (i:Nat) (b:ABlk):hPut H i b=H.put i b:=by cases H;rfl
def zgl1 {β:Type}(f:Nat->β) (n:Nat):β:=Nat.rec (motive:=fun _=>β) (f 0) (fun p _=>f (Nat.succ p)) n
theorem zld1 {β:Type}(f:Nat->β) (n:Nat):zgl1 f n=f n:=by cases n<;>rfl
def hNew (b:ABlk) (K:Nat->AH->Option (AV×AH)) (H:AH):Option (AV×AH) :=
 AH.rec (motive:=fun _=>Option (AV×AH)) (fun tree next lo hide fz=>zgl1 (fun n=>K n ⟨setB tree n b,Nat.succ n,lo,hide,fz⟩) next) H
theorem zsh (b:ABlk) (K:Nat->AH->Option (AV×AH)) (H:AH):hNew b K H=K H.next (H.new b):=by
 cases H;unfold hNew;show zgl1 _ _=_;rw [zld1];rfl
def nthF {α:Type}(l:List α):Nat->Option α :=
 lrec (β:=Nat->Option α) (fun _=>none) (fun a _ ih i=>zrec (some a) (fun j=>ih j) i) l
theorem zch1 {α:Type}(l:List α):∀i,nthF l i=nth l i:=by
 induction l with
 |nil=>intro i;rfl
 |cons a l ih=>intro i;cases i with|zero=>rfl|succ j=>exact ih j
def zmd1 {α:Type}(l:List α):Nat->α->Option (List α) :=
 lrec (β:=Nat->α->Option (List α)) (fun _ _=>none) (fun a l ih i v=>zrec (some (v::l)) (fun j=>orec none (fun l'=>some (a::l')) (ih j v)) i) l
theorem znd1 {α:Type}(l:List α) (v:α):∀i,zmd1 l i v=zgd [v] l i:=by
 induction l with
 |nil=>intro i;cases i<;>rfl
 |cons a l ih =>
  intro i;cases i with
  |zero=>rfl
  |succ j =>
   show orec none (fun l'=>some (a::l')) (zmd1 l j v)=(match zgd [v] l j with|some l'=>some (a::l')|none=>none)
   rw [ih];cases zgd [v] l j<;>rfl
def ceRec {β:Type}(f:List AV->β) (g:Nat->Nat->β) (c:Ce):β:=Ce.rec (motive:=fun _=>β) f g c
def ceGet (o:Nat) (c:Ce):Option AV:=ceRec (fun l=>nthF l o) (fun n N=>brec none (some (.int .u8 (.ofNat (Ce.byteAt N o)))) (Nat.blt o n)) c
theorem zhl1 (o:Nat) (c:Ce):ceGet o c=nth c.l o:=by
 rw [zcg,← Ce.get_l];cases c with
 |lst l=>exact zch1 l o
 |byt n N=>rfl
def zil1 (H:AH) (i o:Nat):Option AV:=orec none (fun b=>blkA none (fun vs _ _ _ _=>ceGet o vs) b) (hGet H i)
theorem zjs (H:AH) (i o:Nat):zil1 H i o=H.read1 i o:=by
 unfold zil1 AH.read1 AH.row;rw [zsk];cases H.get i with
 |none=>rfl
 |some b=>cases b<;>first|rfl|exact zhl1 _ _
def ceSet (o:Nat) (v:AV) (c:Ce):Option Ce:=ceRec (fun l=>orec none (fun l'=>some (.lst l')) (zmd1 l o v)) (fun m N=>Ce.over (Ce.of [v]) (.byt m N) o) c
theorem zjl1 (o:Nat) (v:AV) (c:Ce):ceSet o v c=Ce.over (Ce.of [v]) c o:=by
 cases c with
 |lst l =>
  show orec none (fun l'=>some (Ce.lst l')) (zmd1 l o v)=Ce.overL (Ce.of [v]).l l o
  rw [znd1,Ce.of_l];unfold Ce.overL;cases zgd [v] l o<;>rfl
 |byt m N=>rfl
def zks (H:AH) (i o:Nat) (v:AV):Option AH :=
 brec none (orec none (fun b=>blkH none (fun vs e z op ro=>brec (avOne none (orec none (fun vs'=>some (hPut H i (.cells vs' e z op ro))) (ceSet o v vs)) v) none ro) b) (hGet H i)) (Nat.ble H.lo i)
theorem zhp (v:AV):(Ce.of [v]).one=AV.oneCell v:=by
 unfold Ce.of;cases h:Ce.pack [v] with
 |none=>show [v].all AV.oneCell=_;simp
 |some N =>
  have:=Ce.pack_some [v] N h;show true=_
  simp only [qi2,qc6,qu1] at this;have h2:v= .int .u8 (.ofNat (N%256)):=by
   have h3:bytesL 1 N= [AV.int .u8 (.ofNat (N%256))]:=rfl;rw [h3] at this
   simpa using this.symm
  rw [h2];rfl
theorem zoy (H:AH) (i o:Nat) (v:AV):zks H i o v=H.write i o [v]:=by
 unfold zks AH.write AH.writeC;rw [zsk];cases Nat.ble H.lo i with
 |false=>rfl
 |true =>
  show orec none _ (H.get i)=_
  cases H.get i with
  |none=>rfl
  |some b =>
   cases b with
   |cells vs e z op ro =>
    cases ro with
    |true=>rfl
    |false =>
     show avOne none (orec none _ (ceSet o v vs)) v=_
     simp only [zhp];rw [zjl1];simp only [zgp];cases v<;>(simp only [AV.oneCell]<;>first|rfl|(cases Ce.over _ vs o<;>rfl))
   |_=>rfl
def subCF (H:AH) (i o n:Nat):Option Ce:=orec none (fun b=>blkC none (fun vs=>vs.sub o n) b) (hGet H i)
theorem zjf (H:AH) (i o n:Nat):subCF H i o n=H.subC i o n:=by
 unfold subCF AH.subC;rw [zsk];cases H.get i with
 |none=>rfl
 |some b=>cases b<;>rfl
def zne (H:AH) (i o:Nat) (xs:Ce):Option AH :=
 brec none (orec none (fun b=>blkH none (fun vs e z op ro=>brec (brec none (orec none (fun vs'=>some (hPut H i (.cells vs' e z op ro))) (Ce.over xs vs o)) xs.one) none ro) b) (hGet H i)) (Nat.ble H.lo i)
theorem zcd (H:AH) (i o:Nat) (xs:Ce):zne H i o xs=H.writeC i o xs:=by
 unfold zne AH.writeC;rw [zsk];cases Nat.ble H.lo i with
 |false=>rfl
 |true =>
  show orec none _ (H.get i)=_
  cases H.get i with
  |none=>rfl
  |some b =>
   cases b with
   |cells vs e z op ro =>
    cases ro with
    |true=>rfl
    |false =>
     show brec none (orec none _ (Ce.over xs vs o)) xs.one=_
     simp only [zgp];cases xs.one with
     |false=>rfl
     |true=>simp only [zpm];cases Ce.over xs vs o<;>rfl
   |_=>rfl
def ld1 (a:AV) (H:AH):Option AV:=avPX none (fun i o=>zil1 H i o) (fun k g o=>ldG k g o H) a
def ceV (c:Ce):AV:=ceRec (fun l=>.agg l) (fun n N=>.bag n N) c
theorem zkl1 (c:Ce):ceV c=c.toV:=by cases c<;>rfl
def ldN (s:Nat) (a:AV) (H:AH):Option AV:=avPtr none (fun i o=>orec none (fun c=>some (ceV c)) (subCF H i o s)) a
theorem ld1_eq {L:Lk}{t:TypeId}(h:L.isAgg t=some false) (a:AV) (H:AH):ld1 a H=zue L t a H:=by
 cases a<;>try rfl
 ·next i o =>
  show _=zvb L t (.ptr i o) H
  unfold zvb;rw [h];exact zjs _ _ _
 ·unfold zue;rw [h];rfl
theorem ldN_eq {L:Lk}{t:TypeId}{s:Nat}(h:L.isAgg t=some true) (hs:L.size t=some s) (a:AV) (H:AH):ldN s a H=zue L t a H:=by
 cases a<;>try rfl
 ·next i o =>
  show _=zvb L t (.ptr i o) H
  unfold zvb;rw [h,hs];show orec none (fun c=>some (ceV c)) (subCF H i o s)=_
  rw [zjf];simp only;cases AH.subC H i o s with
  |none=>rfl
  |some c=>show some (ceV c)=some c.toV;rw [zkl1]
 ·unfold zue;rw [h];rfl
def stN (s:Nat) (a v:AV) (H:AH):Option AH:=avPtrH none (fun i o=>brec none (zne H i o v.toC) (Nat.beq v.toC.len s)) a
theorem stN_eq {L:Lk}{t:TypeId}{s:Nat}(hs:L.size t=some s) (a v:AV) (H:AH):stN s a v H=zyc L t a v H:=by
 cases a<;>try rfl
 next i o =>
 unfold zyc;rw [hs];show brec none (zne H i o v.toC) (Nat.beq v.toC.len s)=_
 rw [zcd];simp only;cases Nat.beq v.toC.len s<;>rfl
def st1 (L:Lk) (t:TypeId) (a v:AV) (H:AH):Option AH:=avPtrH none (fun i o=>avOne (zyc L t a v H) (zks H i o v) v) a
theorem zll1 {L:Lk}{t:TypeId}(hs:L.size t=some 1) (a v:AV) (H:AH):st1 L t a v H=zyc L t a v H:=by
 cases a<;>try rfl
 next i o =>
 have hl:∀v:AV,v.cells= [v]->v.toC=Ce.of v.cells->zks H i o v=zyc L t (.ptr i o) v H:=fun v hc hC=>by
  unfold zyc;rw [hs];simp only;rw [hC,hc,zoy];have:Nat.beq (Ce.of [v]).len 1=true:=by rw [Ce.len_l,Ce.of_l];rfl
  rw [this];rfl
 cases v<;>first
  |rfl
  |exact hl _ rfl rfl
def ixS (z:Nat) (x ix:AV):Option AV :=
 avSl none (fun i o n _ _=>avInt none (fun _ j=>irec (fun j=>brec none (some (.ptr i (Nat.add o (Nat.mul j z)))) (Nat.blt j n)) (fun _=>none) j) ix) x
def ixA (n z:Nat) (x ix:AV):Option AV :=
 avPtr none (fun i o=>avInt none (fun _ j=>irec (fun j=>brec none (some (.ptr i (Nat.add o (Nat.mul j z)))) (Nat.blt j n)) (fun _=>none) j) ix) x
theorem ixS_eq {L:Lk}{t e:TypeId}{z:Nat}(ht:L.under t=some (.slice e)) (hz:L.size e=some z) (x ix:AV):ixS z x ix=zib L t x ix:=by
 unfold zib;rw [ht];cases ix with
 |int k n =>
  cases n with
  |ofNat j =>
   cases x<;>try rfl
   next i o len c op =>
   simp only [natOf,hz];show brec none (some (AV.ptr i (o+j*z))) (Nat.blt j len)=_
   cases Nat.blt j len<;>rfl
  |negSucc j=>cases x<;>rfl
 |_=>cases x<;>rfl
theorem ixA_eq {L:Lk}{t e:TypeId}{n z:Nat}(ht:L.under t=some (.array n e)) (hz:L.size e=some z) (x ix:AV):ixA n z x ix=zib L t x ix:=by
 unfold zib;rw [ht];cases ix with
 |int k m =>
  cases m with
  |ofNat j =>
   cases x<;>try rfl
   next i o =>
   simp only [natOf,hz];show brec none (some (AV.ptr i (o+j*z))) (Nat.blt j n)=_
   cases Nat.blt j n<;>rfl
  |negSucc j=>cases x<;>rfl
 |_=>cases x<;>rfl
def fa (off:Nat) (x:AV):Option AV:=avPtr none (fun i o=>some (.ptr i (Nat.add o off))) x
theorem fa_eq {L:Lk}{s:TypeId}{f:Nat}{fields:Array Field}{fd:Field}{z:Nat}(hs:L.under s=some (.struct fields)) (hf:nth fields.toList f=some fd) (hz:L.size fd.type=some z) (h0:Nat.beq z 0=false) (x:AV) :
  fa fd.offset x=zob L s x f:=by
 cases x<;>try rfl
 unfold zob;simp only [hs,hf,hz,h0];rfl
def alF (z:Ce) (e s:Nat) (H:AH):Option (AV×AH):=hNew (.cells z e s false false) (fun n H'=>some (.ptr n 0,H')) H
theorem zod1 (z:Ce) (e s:Nat) (H:AH):alF z e s H=some (.ptr H.next 0,H.new (.cells z e s false false)):=by unfold alF;rw [zsh]
def cvI (k:IntKind) (x:AV):Option AV:=avInt none (fun _ n=>some (.int k (fw k n))) x
def exN (ix:Nat) (x:AV):Option AV :=
 @AV.rec (fun _=>Option AV) (fun _=>Unit) (fun _=>none) (fun _ _=>none) (fun _=>none) none (fun _ _=>none) none (fun _ _ _ _ _=>none) none (fun _=>none) (fun _ _ _ _ _=>none) (fun _=>none) none (fun _ _ _=>none) none (fun _ _=>none) (fun vs _=>nthF vs ix) (fun _ _=>none) (fun _ _ _=>none) () (fun _ _ _ _=>()) x
def notF (x:AV):Option AV:=zcl1 none (fun b=>some (.bool (brec true false b))) x
def srcF (z:Nat) (x:AV) (n:Nat) (H:AH):Option Ce :=
 match x with
 | .sl i o _ _ _=>subCF H i o (Nat.mul n z)
 |x=>zhb z x n H
theorem zls (z:Nat) (x:AV) (n:Nat) (H:AH):srcF z x n H=zhb z x n H:=by
 cases x<;>first|rfl|exact zjf _ _ _ _
def slNew (l:Nat) (b:ABlk) (H:AH):Option (AV×AH):=hNew b (fun n H'=>some (.sl n 0 l l true,H')) H
theorem zkf (l:Nat) (b:ABlk) (H:AH):slNew l b H=some (.sl H.next 0 l l true,H.new b):=zsh _ _ _
def appD (e z:Nat) (i o l c n:Nat) (old new:Ce) (H:AH) (vs:Ce) (e' z':Nat) (op' ro:Bool):Option (AV×AH) :=
 match Nat.beq e e' && Nat.beq z z' && op' && !ro && Nat.beq vs.len (Nat.add o (Nat.mul c z)) with
 |true=>slNew (Nat.add l n) (.cells (Ce.app old new) e z true false) (hPut H i .defd)
 |false=>none
def appO (e z:Nat) (i o l c n:Nat) (old new:Ce) (H:AH):Option (AV×AH) :=
 match Nat.ble H.lo i,hGet H i with
 |true,some (.cells vs e' z' op' ro)=>appD e z i o l c n old new H vs e' z' op' ro
 |_,_=>none
def appG (e z b:Nat) (i o l c:Nat) (op:Bool) (n:Nat) (new:Ce) (H:AH):Option (AV×AH) :=
 match Nat.ble (Nat.mul (Nat.add l n) b) 140737488355328 && Nat.ble (Nat.add l n) 9223372036854775807 with
 |false=>none
 |true=>orec none (fun old=>brec (slNew (Nat.add l n) (.cells (Ce.app old new) e z true false) H) (appO e z i o l c n old new H) op) (subCF H i o (Nat.mul l z))
def appN (e z b n:Nat) (new:Ce) (H:AH):Option (AV×AH) :=
 brec (match Nat.ble (Nat.mul n b) 140737488355328 && Nat.ble n 9223372036854775807 with
  |false=>none
  |true=>slNew n (.cells new e z true false) H) (some (.nilSl,H)) (Nat.beq n 0)
def appS (e z b n:Nat) (new:Ce) (s:AV) (H:AH):Option (AV×AH) :=
 match s with
 | .nilSl=>appN e z b n new H
 | .sl i o l c op=>brec (appG e z b i o l c op n new H) (orec none (fun H'=>some (.sl i o (Nat.add l n) c op,H')) (zne H i (Nat.add o (Nat.mul l z)) new)) (Nat.ble (Nat.add l n) c)
 |_=>none
def appF (e z b:Nat) (s x:AV) (H:AH):Option (AV×AH) :=
 orec none (fun n=>orec none (fun new=>brec none (appS e z b n new s H) new.one) (srcF z x n H)) (lenOf x)
theorem zdh1 {L:Lk}{t e z b:Nat}{zv:AV}(h1:L.under t=some (.slice e)) (h2:L.size e=some z) (h3:L.bytes e=some b) (h4:L.zero e=some zv) (h5:(Nat.beq z 0 || !Nat.beq (len zv.cells) z)=false) (s x:AV) (H:AH) :
  appF e z b s x H=zzc L t s x H:=by
 unfold appF zzc zql;rw [h1];simp only [h2,h3,h4];cases lenOf x with
 |none=>rfl
 |some n =>
  show orec none _ (srcF z x n H)=_
  rw [zls];simp only;cases zhb z x n H with
  |none=>rfl
  |some new =>
   show brec none (appS e z b n new s H) new.one=_
   simp only;cases new.one with
   |false=>rfl
   |true =>
    simp only [h5,zpm];cases s with
    |nilSl =>
     show appN e z b n new H=_
     unfold appN;simp only;cases Nat.beq n 0 with
     |true=>rfl
     |false =>
      show (match Nat.ble (n*b) 140737488355328 && Nat.ble n 9223372036854775807 with|false=>none|true=>slNew n (.cells new e z true false) H)=_
      simp only;cases Nat.ble (n*b) 140737488355328 && Nat.ble n 9223372036854775807 with
      |false=>rfl
      |true=>simp only [zkf]
    |sl i o l c op =>
     show brec (appG e z b i o l c op n new H) (orec none (fun H'=>some (AV.sl i o (l+n) c op,H')) (zne H i (o+l*z) new)) (Nat.ble (l+n) c)=_
     simp only;cases Nat.ble (l+n) c with
     |true =>
      simp only [zpm];rw [zcd];cases H.writeC i (o+l*z) new<;>rfl
     |false =>
      simp only [zzb1];show (match Nat.ble ((l+n)*b) 140737488355328 && Nat.ble (l+n) 9223372036854775807 with
       |false=>none
       |true=>orec none (fun old=>brec (slNew (l+n) (.cells (Ce.app old new) e z true false) H) (appO e z i o l c n old new H) op) (subCF H i o (l*z)))=_
      rw [zjf];cases Nat.ble ((l+n)*b) 140737488355328 && Nat.ble (l+n) 9223372036854775807 with
      |false=>cases H.subC i o (l*z)<;>rfl
      |true =>
       cases H.subC i o (l*z) with
       |none=>rfl
       |some old =>
        show brec (slNew (l+n) (.cells (Ce.app old new) e z true false) H) (appO e z i o l c n old new H) op=_
        cases op with
        |false=>exact zkf _ _ _
        |true =>
         show appO e z i o l c n old new H=_
         unfold appO;rw [zsk];simp only;cases Nat.ble H.lo i with
         |false=>rfl
         |true =>
          cases H.get i with
          |none=>rfl
          |some bk =>
           cases bk with
           |cells vs e' z' op' ro =>
            show appD e z i o l c n old new H vs e' z' op' ro=_
            unfold appD;show (match Nat.beq e e' && Nat.beq z z' && op' && !ro && Nat.beq vs.len (o+c*z) with|true=>slNew (l+n) (.cells (Ce.app old new) e z true false) (hPut H i .defd)|false=>none)=_
            simp only;cases Nat.beq e e' && Nat.beq z z' && op' && !ro && Nat.beq vs.len (o+c*z) with
            |false=>rfl
            |true=>simp only [zkf,zgp];rfl
           |_=>rfl
    |_=>rfl
def hd (xs:List AV):AV:=lrec (β:=AV) .undef (fun a _ _=>a) xs
def tl (xs:List AV):List AV:=List.rec (motive:=fun _=>List AV) [] (fun _ l _=>l) xs
def fstO (r:Option (AV×AH)):Option AV:=orec none (fun p=>some p.1) r
def zea (b:Builtin):Lk->List TypeId->List AV->AH->Option (AV×AH) :=
 match b with
 | .len=>fun L ts args H=>(match ts,args with|t::_,x::_=>(match evLen L t x H with|some v=>some (v,H)|none=>none)|_,_=>none)
 | .cap=>fun L ts args H=>(match ts,args with|t::_,x::_=>(match evCap L t x with|some v=>some (v,H)|none=>none)|_,_=>none)
 | .append=>fun L ts args H=>(match ts,args with
  |t::t'::_,s::x::_=>(match L.under t' with
   |some (.slice _)=>zzc L t s x H
   |some .string=>zzc L t s x H
   |some (.int _)=>zje L t s x H
   |_=>none)
  |_,_=>none)
 | .copy=>fun L ts args H=>(match ts,args with|t::_,d::x::_=>zho L t d x H|_,_=>none)
 | .min=>fun _ _ args H=>(match args with|x::l=>(match fold2 zvw l x with|some v=>some (v,H)|none=>none)| []=>none)
 | .max=>fun _ _ args H=>(match args with|x::l=>(match fold2 zww l x with|some v=>some (v,H)|none=>none)| []=>none)
 | .clear=>fun L ts args H=>(match ts,args with|t::_,x::_=>(match zyj L t x H with|some H'=>some (.undef,H')|none=>none)|_,_=>none)
 | .delete=>fun L ts args H=>(match ts,args with|t::_,m::k::_=>(match zyf L t m k H with|some H'=>some (.undef,H')|none=>none)|_,_=>none)
 |_=>fun _ _ _ _=>none
theorem zzl (L:Lk) (b:Builtin) (ts:List TypeId) (args:List AV) (H:AH):zea b L ts args H=zpb L b ts args H:=by cases b<;>rfl
def zxa (L:Lk) (t:TypeId) (lo hi mx:Bool) (xs:List AV):Option AV :=
 zfb L t (hd xs) (brec none (some (hd (tl xs))) lo) (brec none (some (hd (brec (tl xs) (tl (tl xs)) lo))) hi)
  (brec none (some (hd (brec (brec (tl xs) (tl (tl xs)) lo) (tl (brec (tl xs) (tl (tl xs)) lo)) hi))) mx)
def nilF (v:AV):Option AV:=match v with| .ptr i o=>some (.ptr i o)| .ifc t v=>some (.ifc t v)| .fn (.func f) a b=>some (.fn (.func f) a b)| .yld l=>some (.yld l)|_=>none
def bsF (s n:Nat) (z:AV) (e:Nat) (parts:List (Nat×AV)) (H:AH):Option (AV×AH) :=
 orec none (fun cs=>hNew (.cells (Ce.of cs) e s false false) (fun m H'=>some (.sl m 0 n n false,H')) H) (fillL (fun i=>some (Nat.mul i s,s)) parts (rep z.cells n))
theorem bsF_eq {L:Lk}{t e s n:Nat}{z:AV}(h1:L.under t=some (.slice e)) (h2:L.size e=some s) (h3:L.zero e=some z) (h4:(Nat.ble (n*s) 16777216 && Nat.beq (len z.cells) s)=true) (parts:List (Nat×AV)) (H:AH) :
  bsF s n z e parts H=zsb L t n parts H:=by
 unfold bsF zsb;rw [h1];simp only [h2,h3,h4];show orec none _ (fillL (fun i=>some (i*s,s)) parts (rep z.cells n))=_
 cases fillL (fun i=>some (i*s,s)) parts (rep z.cells n) with
 |none=>rfl
 |some cs=>exact zsh (.cells (Ce.of cs) e s false false) (fun m H'=>some (.sl m 0 n n false,H')) H
def zipF (ns:List Nat) (xs:List AV):List (Nat×AV):=ns.zip xs
inductive K2 where
 |done
 |fail
 |mv (x:O2) (d:Option S2) (k:K2)
 |p1 (f:AV->Option AV) (x:O2) (d:Option S2) (k:K2)
 |p2 (f:AV->AV->Option AV) (x y:O2) (d:Option S2) (k:K2)
 |r1 (f:AV->AH->Option AV) (x:O2) (d:Option S2) (k:K2)
 |al (w:Bool) (f:AH->Option (AV×AH)) (d:Option S2) (k:K2)
 |m1 (w:Bool) (f:AV->AH->Option (AV×AH)) (x:O2) (d:Option S2) (k:K2)
 |st (w:Bool) (f:AV->AV->AH->Option AH) (x y:O2) (d:Option S2) (k:K2)
 |cl (w:Bool) (f:FuncId) (xs:List O2) (d:Option S2) (k:K2)
 |ln (f:List AV->AH->Option AV) (xs:List O2) (d:Option S2) (k:K2)
 |hn (w:Bool) (f:List AV->AH->Option (AV×AH)) (xs:List O2) (d:Option S2) (k:K2)
 |ls (f:List AV->AH->Option AV) (xs:List O2) (o:Oper) (d:Option S2) (k:K2)
 |cn (w:Bool) (f:List AV->AH->Option Next1) (xs:List O2) (d:Option S2) (k:K2)
 |gl (o:Oper) (d:Option S2) (k:K2)
 |gh (w:Bool) (o:Oper) (d:Option S2) (k:K2)
 |ge (o:Oper) (d:Option S2) (k:K2)
 |gw (x:Ent) (pre:List Ent) (d:Option S2) (k:K2)
 |cw (rd:Option (List S2)) (f:FuncId) (xs:List O2) (d:Option S2) (k:K2)
 |sk (d:Option S2) (k:K2)
 |gd (s:S2) (want:Bool) (d:Option S2) (a b:K2)
def putS (d:Option S2):AV->Tr AV->Tr AV:=orec (β:=AV->Tr AV->Tr AV) (fun _ T=>T) (fun s v T=>s.set v T) d
theorem putS_eq (d:Option Tmp) (v:AV) (T:Tr AV):putS (match d with|some t=>some (sOf t)|none=>none) v T=putT T d v:=by
 cases d with
 |none=>rfl
 |some t=>exact zny t v T
def dOf (d:Option Tmp):Option S2:=match d with|some t=>some (sOf t)|none=>none
theorem zec (d:Option Tmp) (v:AV) (T:Tr AV):putS (dOf d) v T=putT T d v:=putS_eq d v T
def evs (xs:List O2):Tr AV->List AV:=lrec (β:=Tr AV->List AV) (fun _=> []) (fun x _ ih T=>x.ev T::ih T) xs
theorem zoe (T:Tr AV) (l:List Operand):opnds T l=(match mapO opd l with|some xs=>some (evs xs T)|none=>none):=by
 induction l with
 |nil=>rfl
 |cons a l ih =>
  show obind (opnd T a) (fun b=>obind (opnds T l) fun bs=>some (b::bs))=match obind (opd a) (fun b=>obind (mapO opd l) fun bs=>some (b::bs)) with|some xs=>some (evs xs T)|none=>none
  rw [zna,ih];cases opd a with
  |none=>rfl
  |some x=>cases mapO opd l<;>rfl
def hIn (w:Bool) (H:AH):AH:=brec H {H with lo:=H.next} w
def hOut (w:Bool) (H H':AH):AH:=brec H' {H' with lo:=H.lo} w
theorem zml1 (w:Bool) (H:AH):hOut w H (hIn w H)=H:=by cases w<;>cases H<;>rfl
def ztk (want:Bool) (o:Option AV):Bool:=orec false (fun v=>avBoolB false (fun b=>brec (brec true false want) want b) v) o
def ptrsT (T:Tr AV) (ks:List S2):Option (List Nat) :=
 lrec (β:=Option (List Nat)) (some []) (fun s _ ih=>match s.get T with|some (.ptr i _)=>(match ih with|some js=>some (i::js)|none=>none)|_=>none) ks
def ptrsO (rd:Option (List S2)) (T:Tr AV):Option (List Nat):=orec none (fun ks=>ptrsT T ks) rd
def zth (x:Ent) (L:Lk) (pre:List Ent):List Nat->Option (List S2) :=
 lrec (β:=List Nat->Option (List S2)) (fun _=>some []) (fun y _ ih ds =>
  match zad L y.2.2 && !Nat.testBit x.2.1 y.1 with
  |false=>ih (match y.2.2.dst with|some d=>d::ds|none=>ds)
  |true=>(match y.2.2.op with
   | .load _ (.tmp k)=>(match has (match y.2.2.dst with|some d=>d::ds|none=>ds) k with
    |true=>none
    |false=>(match ih (match y.2.2.dst with|some d=>d::ds|none=>ds) with|some ks=>some (sOf k::ks)|none=>none))
   |_=>none)) pre
theorem zms (x:Ent) (L:Lk) (T:Tr AV) (pre:List Ent):∀ds,zce x L T pre ds=ptrsO (zth x L pre ds) T:=by
 induction pre with
 |nil=>intro ds;rfl
 |cons y pre ih =>
  intro ds;show (match zad L y.2.2 && !Nat.testBit x.2.1 y.1 with
   |false=>zce x L T pre (match y.2.2.dst with|some d=>d::ds|none=>ds)
   |true=>(match y.2.2.op with
    | .load _ (.tmp k)=>(match has (match y.2.2.dst with|some d=>d::ds|none=>ds) k with
     |true=>none
     |false=>(match T.get k with
      |some (.ptr i _)=>(match zce x L T pre (match y.2.2.dst with|some d=>d::ds|none=>ds) with|some js=>some (i::js)|none=>none)
      |_=>none))
    |_=>none))=ptrsO (match zad L y.2.2 && !Nat.testBit x.2.1 y.1 with
   |false=>zth x L pre (match y.2.2.dst with|some d=>d::ds|none=>ds)
   |true=>(match y.2.2.op with
    | .load _ (.tmp k)=>(match has (match y.2.2.dst with|some d=>d::ds|none=>ds) k with
     |true=>none
     |false=>(match zth x L pre (match y.2.2.dst with|some d=>d::ds|none=>ds) with|some ks=>some (sOf k::ks)|none=>none))
    |_=>none)) T
  cases zad L y.2.2 && !Nat.testBit x.2.1 y.1 with
  |false=>exact ih _
  |true =>
   simp only;split
   ·next t k _ =>
    split
    ·rfl
    ·rw [ih]
     cases zth x L pre (match y.2.2.dst with|some d=>d::ds|none=>ds) with
     |none =>
      show (match T.get k with|some (.ptr i _)=>(match (none:Option (List Nat)) with|some js=>some (i::js)|none=>none)|_=>none)=none
      cases T.get k with
      |none=>rfl
      |some v=>cases v<;>rfl
     |some ks =>
      show _=(match (sOf k).get T with|some (.ptr i _)=>(match ptrsT T ks with|some js=>some (i::js)|none=>none)|_=>none)
      rw [zrk];rfl
   ·rfl
abbrev RunK:=Lk->Rec->(Tr AV->AH->Option Out)->Tr AV->AH->Option Out
def prodO (f:AV->AH->Option Out) (r:AV×AH):Option Out:=Prod.rec (motive:=fun _=>Option Out) f r
def outO (f:AV->AH->Option Out) (o:Out):Option Out:=Out.rec (motive:=fun _=>Option Out) (fun _ T' H'=>f (dflt (zfl1 .d0 .d0 T')) H') o
def nextO (rec:Rec) (H:AH) (f:AV->AH->Option Out) (nx:Next1):Option Out :=
 Next1.rec (motive:=fun _=>Option Out) (fun v H'=>f v H') (fun g args=>orec none (outO f) (rec (.call g args H))) (fun l args=>orec none (outO f) (rec (.round l args H))) nx
def runK' (c:K2):RunK :=
 K2.rec (motive:=fun _=>RunK)
  (fun _ _ kk T H=>kk T H)
  (fun _ _ _ _ _=>none)
  (fun x d _ ih L rec kk T H=>ih L rec kk (putS d (x.ev T) T) H)
  (fun f x d _ ih L rec kk T H=>orec none (fun v=>ih L rec kk (putS d v T) H) (f (x.ev T)))
  (fun f x y d _ ih L rec kk T H=>orec none (fun v=>ih L rec kk (putS d v T) H) (f (x.ev T) (y.ev T)))
  (fun f x d _ ih L rec kk T H=>orec none (fun v=>ih L rec kk (putS d v T) H) (f (x.ev T) H))
  (fun w f d _ ih L rec kk T H=>orec none (prodO (fun v H'=>ih L rec kk (putS d v T) (hOut w H H'))) (f (hIn w H)))
  (fun w f x d _ ih L rec kk T H=>orec none (prodO (fun v H'=>ih L rec kk (putS d v T) (hOut w H H'))) (f (x.ev T) (hIn w H)))
  (fun w f x y d _ ih L rec kk T H=>orec none (fun H'=>ih L rec kk (putS d .undef T) (hOut w H H')) (f (x.ev T) (y.ev T) (hIn w H)))
  (fun w f xs d _ ih L rec kk T H=>orec none (outO (fun v H'=>ih L rec kk (putS d v T) (hOut w H H'))) (rec (.call f (evs xs T) (hIn w H))))
  (fun f xs d _ ih L rec kk T H=>orec none (fun v=>ih L rec kk (putS d v T) H) (f (evs xs T) H))
  (fun w f xs d _ ih L rec kk T H=>orec none (prodO (fun v H'=>ih L rec kk (putS d v T) (hOut w H H'))) (f (evs xs T) (hIn w H)))
  (fun f xs o d _ ih L rec kk T H=>orec (orec none (prodO (fun v H'=>ih L rec kk (putS d v T) H')) (evEnd L T o H)) (fun v=>ih L rec kk (putS d v T) H) (f (evs xs T) H))
  (fun w f xs d _ ih L rec kk T H=>orec none (nextO rec (hIn w H) (fun v H'=>ih L rec kk (putS d v T) (hOut w H H'))) (f (evs xs T) (hIn w H)))
  (fun o d _ ih L rec kk T H=>orec none (prodO (fun v _=>ih L rec kk (putS d v T) H)) (zva L rec T o H))
  (fun w o d _ ih L rec kk T H=>orec none (prodO (fun v H'=>ih L rec kk (putS d v T) (hOut w H H'))) (zva L rec T o (hIn w H)))
  (fun o d _ ih L rec kk T H=>orec none (prodO (fun v H'=>ih L rec kk (putS d v T) H')) (zzf L rec T o H))
  (fun x pre d _ ih L rec kk T H=>brec
   (orec none (prodO (fun v H'=>ih L rec kk (putS d v T) H')) (zid L rec T x pre H))
   (orec none (prodO (fun v H'=>ih L rec kk (putS d v T) H')) (zva L rec T x.2.2 H)) (far L T x pre))
  (fun rd f xs d _ ih L rec kk T H=>orec
   (orec none (outO (fun v H'=>ih L rec kk (putS d v T) (hOut true H H'))) (rec (.call f (evs xs T) (hIn true H))))
   (fun js=>orec none (outO (fun v H'=>brec none (ih L rec kk (putS d v T) H') (zwg H H' js))) (rec (.call f (evs xs T) H)))
   (ptrsO rd T))
  (fun d _ ih L rec kk T H=>ih L rec kk (putS d .undef T) H)
  (fun s want d _ _ iha ihb L rec kk T H=>brec (ihb L rec kk (putS d .undef T) H) (iha L rec kk T H) (ztk want (s.get T))) c
def runK (L:Lk) (rec:Rec) (kk:Tr AV->AH->Option Out) (c:K2) (T:Tr AV) (H:AH):Option Out:=runK' c L rec kk T H
def appX (e z b:Nat) (xs:List AV) (H:AH):Option (AV×AH):=match xs with|s::x::_=>appF e z b s x H|_=>none
def appH (L:Lk) (ts:List TypeId):List AV->AH->Option (AV×AH) :=
 match ts with
 |t::t'::_=>(match L.under t',L.under t with
  |some (.slice _),some (.slice e)=>(match L.size e,L.bytes e,L.zero e with
   |some z,some b,some zv=>(match Nat.beq z 0 || !Nat.beq (len zv.cells) z with
    |false=>appX e z b
    |true=>zea .append L ts)
   |_,_,_=>zea .append L ts)
  |_,_=>zea .append L ts)
 |_=>zea .append L ts
def znl1 (L:Lk) (b:Builtin) (ts:List TypeId):List AV->AH->Option (AV×AH):=match b with| .append=>appH L ts|b=>zea b L ts
theorem zpd1 (L:Lk) (b:Builtin) (ts:List TypeId) (args:List AV) (H:AH):znl1 L b ts args H=zpb L b ts args H:=by
 rw [← zzl];cases b<;>try rfl
 show appH L ts args H=_
 cases ts with
 |nil=>rfl
 |cons t ts=>cases ts with
  |nil=>rfl
  |cons t' rest =>
   unfold appH;simp only;cases h1:L.under t' with
   |none=>rfl
   |some d'=>cases d' with
    |slice e0=>cases h2:L.under t with
     |none=>rfl
     |some d=>cases d with
      |slice e =>
       simp only;cases h3:L.size e with
       |none=>rfl
       |some z=>cases h4:L.bytes e with
        |none=>rfl
        |some b=>cases h5:L.zero e with
         |none=>rfl
         |some zv =>
          simp only;cases h6:(Nat.beq z 0 || !Nat.beq (len zv.cells) z) with
          |true=>rfl
          |false =>
           cases args with
           |nil=>rfl
           |cons s l=>cases l with
            |nil=>rfl
            |cons x l =>
             show appF e z b s x H=(match L.under t' with|some (.slice _)=>zzc L t s x H|some .string=>zzc L t s x H|some (.int _)=>zje L t s x H|_=>none)
             rw [h1,zdh1 h2 h3 h4 h5 h6]
      |_=>rfl
    |_=>rfl
def zln (n:Nat):List AV->List AV:=nrecF (α:=List AV) (β:=List AV) (fun _=> []) (fun _ ih xs=>hd xs::ih (tl xs)) n
def restN (n:Nat):List AV->List AV:=nrecF (α:=List AV) (β:=List AV) (fun xs=>xs) (fun _ ih xs=>ih (tl xs)) n
def unitF (o:Option AH):Option (AV×AH):=orec none (fun H'=>some (.undef,H')) o
def pickF (xs:List AV):Option AV:=zcl1 none (fun b=>some (brec (hd (tl (tl xs))) (hd (tl xs)) b)) (hd xs)
def zzv (H:AH):Option (AV×AH):=hNew (.map [] 0) (fun n H'=>some (.map n,H')) H
def node (L:Lk) (o:Oper) (w:Bool) (k:K2):K2 :=
 match zia L o with
 |false=>(match o.op with
  | .move x=>orec .fail (fun x=>.mv x (dOf o.dst) k) (opd x)
  | .assign x=>orec .fail (fun x=>.mv x (dOf o.dst) k) (opd x)
  | .binOp op t x y _=>orec .fail (fun a=>orec .fail (fun b=>.p2 (binF op (evBin L op t x y)) a b (dOf o.dst) k) (opd y)) (opd x)
  | .unOp op _ x=>(match op with
   | .not=>orec .fail (fun x=>.p1 notF x (dOf o.dst) k) (opd x)
   |op=>orec .fail (fun x=>.p1 (evUn op) x (dOf o.dst) k) (opd x))
  | .pick c a b=>orec (.gl o (dOf o.dst) k) (fun xs=>.ln (fun xs _=>pickF xs) xs (dOf o.dst) k) (mapO opd [c,a,b])
  | .lookup t x ix ok=>orec .fail (fun xs=>.ln (fun xs H=>zjb L t (hd xs) (hd (tl xs)) ok H) xs (dOf o.dst) k) (mapO opd [x,ix])
  | .typeAssert x _ t ok=>orec .fail (fun x=>.p1 (fun v=>ztd L v t ok) x (dOf o.dst) k) (opd x)
  | .makeFunc fn a b=>(match fn with
   | .func f=>orec .fail (fun xs=>orec .fail (fun ys=>.ln (fun zs _=>some (.fn (.func f) (zln a.size zs) (restN a.size zs))) (xs ++ ys) (dOf o.dst) k) (mapO opd b.toList)) (mapO opd a.toList)
   |_=>.gl o (dOf o.dst) k)
  | .load t a=>(match L.isAgg t with
   |some true=>(match L.size t with
    |some s=>orec .fail (fun x=>.r1 (ldN s) x (dOf o.dst) k) (opd a)
    |none=>.fail)
   |some false=>orec .fail (fun x=>.r1 ld1 x (dOf o.dst) k) (opd a)
   |none=>.fail)
  | .indexAddr t x ix=>(match L.under t with
   |some (.slice e)=>(match L.size e with
    |some z=>orec .fail (fun a=>orec .fail (fun b=>.p2 (ixS z) a b (dOf o.dst) k) (opd ix)) (opd x)
    |none=>.fail)
   |some (.array n e)=>(match L.size e with
    |some z=>orec .fail (fun a=>orec .fail (fun b=>.p2 (ixA n z) a b (dOf o.dst) k) (opd ix)) (opd x)
    |none=>.fail)
   |_=>.fail)
  | .fieldAddr s x f=>(match L.under s with
   |some (.struct fields)=>(match nth fields.toList f with
    |some fd=>(match L.size fd.type with
     |some z=>brec (orec .fail (fun x=>.p1 (fa fd.offset) x (dOf o.dst) k) (opd x)) .fail (Nat.beq z 0)
     |none=>.fail)
    |none=>.fail)
   |_=>.fail)
  | .extract x ix=>orec .fail (fun x=>.p1 (exN ix) x (dOf o.dst) k) (opd x)
  | .field t x f=>orec .fail (fun x=>.p1 (fun v=>zcj L t v f) x (dOf o.dst) k) (opd x)
  | .index t x ix=>orec .fail (fun a=>orec .fail (fun b=>.p2 (zvd L t) a b (dOf o.dst) k) (opd ix)) (opd x)
  | .makeInterface t x=>orec .fail (fun x=>.p1 (zsa L t) x (dOf o.dst) k) (opd x)
  | .nilCheck x=>orec .fail (fun x=>.p1 nilF x (dOf o.dst) k) (opd x)
  | .slice t x lo hi mx=>orec .fail (fun xs=>.ln (fun xs _=>zxa L t lo.isSome hi.isSome mx.isSome xs) xs (dOf o.dst) k) (mapO opd (x::(lo.toList ++ (hi.toList ++ mx.toList))))
  | .convert _ d x=>(match L.under d with
   |some (.int ki)=>orec .fail (fun x=>.p1 (cvI ki) x (dOf o.dst) k) (opd x)
   |_=>.gl o (dOf o.dst) k)
  | .build t ps=>orec .fail (fun xs=>.ln (fun xs _=>zua L t (zipF (ps.toList.map fun p=>p.1) xs)) xs (dOf o.dst) k) (mapO opd (ps.toList.map fun p=>p.2))
  | .call c=>(match c.callee with
   | .builtin b=>orec .fail (fun xs=>.ln (fun xs H=>fstO (zea b L c.argTypes.toList xs H)) xs (dOf o.dst) k) (mapO opd c.args.toList)
   |_=>.gl o (dOf o.dst) k)
  |_=>.gl o (dOf o.dst) k)
 |true=>(match o.op with
  | .alloc e=>(match L.zero e,L.size e with
   |some z,some s=>.al w (alF z.toC e s) (dOf o.dst) k
   |_,_=>.fail)
  | .box e x=>(match L.size e with
   |some s=>orec .fail (fun x=>.m1 w (fun v H=>alF v.toC e s H) x (dOf o.dst) k) (opd x)
   |none=>.fail)
  | .store t a x=>(match L.size t with
   |some s=>brec
     (orec .fail (fun a=>orec .fail (fun b=>.st w (stN s) a b (dOf o.dst) k) (opd x)) (opd a))
     (orec .fail (fun a=>orec .fail (fun b=>.st w (st1 L t) a b (dOf o.dst) k) (opd x)) (opd a)) (Nat.beq s 1)
   |none=>.fail)
  | .convert s d x=>(match L.under s,L.under d with
   |some _,some (.int ki)=>orec .fail (fun x=>.p1 (cvI ki) x (dOf o.dst) k) (opd x)
   |_,_=>orec .fail (fun x=>.m1 w (zxb L s d) x (dOf o.dst) k) (opd x))
  | .buildSlice t n ps=>orec .fail (fun xs=>(match L.under t with
   |some (.slice e)=>(match L.size e,L.zero e with
    |some s,some z=>(match Nat.ble (n*s) 16777216 && Nat.beq (len z.cells) s with
     |true=>.hn w (fun xs H=>bsF s n z e (zipF (ps.toList.map fun p=>p.1) xs) H) xs (dOf o.dst) k
     |false=>.fail)
    |_,_=>.fail)
   |_=>.fail)) (mapO opd (ps.toList.map fun p=>p.2))
  | .mapUpdate t m ky x=>orec .fail (fun xs=>.hn w (fun xs H=>unitF (zoa L t (hd xs) (hd (tl xs)) (hd (tl (tl xs))) H)) xs (dOf o.dst) k) (mapO opd [m,ky,x])
  | .insert t m ky x=>orec .fail (fun xs=>.hn w (fun xs H=>unitF (zoa L t (hd xs) (hd (tl xs)) (hd (tl (tl xs))) H)) xs (dOf o.dst) k) (mapO opd [m,ky,x])
  | .makeMap _ r=>(match r with
   |none=>.al w zzv (dOf o.dst) k
   |some _=>.gh w o (dOf o.dst) k)
  | .makeSlice t l c=>orec .fail (fun xs=>.hn w (fun xs H=>zpc L t (hd xs) (hd (tl xs)) H) xs (dOf o.dst) k) (mapO opd [l,c])
  | .call c=>(match c.callee with
   | .value f=>(match f with
    | .func g=>orec .fail (fun xs=>.cl w g xs (dOf o.dst) k) (mapO opd c.args.toList)
    |f=>orec .fail (fun xs=>.cn w (fun xs _=>zdc (hd xs) (tl xs)) xs (dOf o.dst) k) (mapO opd (f::c.args.toList)))
   | .invoke r name=>orec .fail (fun xs=>.cn w (fun xs H=>zjd L (hd xs) name (tl xs) H) xs (dOf o.dst) k) (mapO opd (r::c.args.toList))
   | .builtin b=>orec .fail (fun xs=>.hn w (znl1 L b c.argTypes.toList) xs (dOf o.dst) k) (mapO opd c.args.toList))
  |_=>.gh w o (dOf o.dst) k)
end
section
variable {L:Lk}{rec:Rec}{kk:Tr AV->AH->Option Out}
theorem zjp {T:Tr AV}{o:Oper}{H:AH}{r:AV×AH}(hl:zia L o=false) (h:zva L rec T o H=some r):r.2=H:=by
 unfold zva at h;split at h
 ·cases h
 ·next nx hnx =>
  have hv:∃v,nx= .val v H:=by
   unfold zia zhh at hl;cases hp:zfl L o.op with
   |true=>obtain ⟨v,hv,_⟩:=zby hp hnx;exact ⟨v,hv⟩
   |false =>
    rw [hp] at hl;cases hr:zzj o.op with
    |true=>obtain ⟨v,hv,_⟩:=zcy hr hnx;exact ⟨v,hv⟩
    |false=>rw [hr] at hl;cases hl
  obtain ⟨v,rfl⟩:=hv;simp only [qz1] at h;rw [← h]
def zfc (L:Lk) (rec:Rec) (kk:Tr AV->AH->Option Out) (o:Oper) (k:K2) (T:Tr AV) (H:AH):Option Out :=
 match zva L rec T o H with
 |some r=>runK L rec kk k (putT T o.dst r.1) H
 |none=>none
def zmc (L:Lk) (rec:Rec) (kk:Tr AV->AH->Option Out) (o:Oper) (w:Bool) (k:K2) (T:Tr AV) (H:AH):Option Out :=
 match zva L rec T o (hIn w H) with
 |some r=>runK L rec kk k (putT T o.dst r.1) (hOut w H r.2)
 |none=>none
theorem zuh (o:Out):dflt (Tr.getLo .d0 .d0 o.T)=zvg o:=by
 unfold zvg;have:o.T.get 0=Tr.getLo .d0 .d0 o.T:=Tr.get_lo _ dC
 rw [this];cases Tr.getLo .d0 .d0 o.T<;>rfl
theorem zkp (o:Oper) (k:K2) (T:Tr AV) (H:AH):runK L rec kk (.gl o (dOf o.dst) k) T H=zfc L rec kk o k T H:=by
 show orec none (fun r=>Prod.rec (motive:=fun _=>Option Out) (fun v _=>runK L rec kk k (putS (dOf o.dst) v T) H) r) (zva L rec T o H)=_
 unfold zfc;cases zva L rec T o H with
 |none=>rfl
 |some r=>show runK L rec kk k (putS (dOf o.dst) r.1 T) H=_;rw [zec]
theorem run_gh (o:Oper) (w:Bool) (k:K2) (T:Tr AV) (H:AH):runK L rec kk (.gh w o (dOf o.dst) k) T H=zmc L rec kk o w k T H:=by
 show orec none (fun r=>Prod.rec (motive:=fun _=>Option Out) (fun v H'=>runK L rec kk k (putS (dOf o.dst) v T) (hOut w H H')) r) (zva L rec T o (hIn w H))=_
 unfold zmc;cases zva L rec T o (hIn w H) with
 |none=>rfl
 |some r=>show runK L rec kk k (putS (dOf o.dst) r.1 T) (hOut w H r.2)=_;rw [zec]
theorem zvh {o:Oper}{T:Tr AV}{H:AH}{x:Option AV}(h:evOp L T o H=val1 x H) (k:K2):zfc L rec kk o k T H=orec none (fun v=>runK L rec kk k (putS (dOf o.dst) v T) H) x:=by
 unfold zfc zva;rw [h];cases x with
 |none=>rfl
 |some v=>show runK L rec kk k (putT T o.dst v) H=_;rw [← zec];rfl
theorem run_mv (x:O2) (o:Oper) (k:K2) (T:Tr AV) (H:AH) (h:evOp L T o H=val1 (some (x.ev T)) H):runK L rec kk (.mv x (dOf o.dst) k) T H=zfc L rec kk o k T H:=by
 rw [zvh h];rfl
theorem zmn (f:AV->Option AV) (x:O2) (o:Oper) (k:K2) (T:Tr AV) (H:AH) (h:evOp L T o H=val1 (f (x.ev T)) H):runK L rec kk (.p1 f x (dOf o.dst) k) T H=zfc L rec kk o k T H:=by
 rw [zvh h];rfl
theorem zol1 (f:AV->AV->Option AV) (x y:O2) (o:Oper) (k:K2) (T:Tr AV) (H:AH) (h:evOp L T o H=val1 (f (x.ev T) (y.ev T)) H):runK L rec kk (.p2 f x y (dOf o.dst) k) T H=zfc L rec kk o k T H:=by
 rw [zvh h];rfl
theorem run_r1 (f:AV->AH->Option AV) (x:O2) (o:Oper) (k:K2) (T:Tr AV) (H:AH) (h:evOp L T o H=val1 (f (x.ev T) H) H):runK L rec kk (.r1 f x (dOf o.dst) k) T H=zfc L rec kk o k T H:=by
 rw [zvh h];rfl
theorem zaw (f:List AV->AH->Option AV) (xs:List O2) (o:Oper) (k:K2) (T:Tr AV) (H:AH) (h:evOp L T o H=val1 (f (evs xs T) H) H):runK L rec kk (.ln f xs (dOf o.dst) k) T H=zfc L rec kk o k T H:=by
 rw [zvh h];rfl
theorem zja {o:Oper}{T:Tr AV}{H:AH}(h:evOp L T o H=none) (k:K2):zfc L rec kk o k T H=none:=by
 unfold zfc zva;rw [h]
theorem zwa {o:Oper}{T:Tr AV}{H:AH}{w:Bool}(h:evOp L T o (hIn w H)=none) (k:K2):zmc L rec kk o w k T H=none:=by
 unfold zmc zva;rw [h]
theorem zns (T:Tr AV) (l:List (Nat×Operand)):mapO (fun p=>match opnd T p.2 with|some v=>some (p.1,v)|none=>none) l=(match mapO opd (l.map fun p=>p.2) with|some xs=>some (zipF (l.map fun p=>p.1) (evs xs T))|none=>none):=by
 induction l with
 |nil=>rfl
 |cons a l ih =>
  show obind (match opnd T a.2 with|some v=>some (a.1,v)|none=>none) (fun b=>obind (mapO (fun p=>match opnd T p.2 with|some v=>some (p.1,v)|none=>none) l) fun bs=>some (b::bs))=match obind (opd a.2) (fun b=>obind (mapO opd (l.map fun p=>p.2)) fun bs=>some (b::bs)) with|some xs=>some (zipF (a.1::l.map fun p=>p.1) (evs xs T))|none=>none
  rw [zna,ih];cases opd a.2 with
  |none=>rfl
  |some x=>cases mapO opd (l.map fun p=>p.2)<;>rfl
theorem zpi {α β:Type}(f:α->Option β):mapO f []=some []:=rfl
theorem zwd {α β:Type}(f:α->Option β) (a:α) (l:List α):mapO f (a::l)=obind (f a) fun b=>obind (mapO f l) fun bs=>some (b::bs):=rfl
theorem zos (L:Lk) (T:Tr AV) (H:AH) (t:TypeId) (x:Operand) (lo hi mx:Option Operand):(match opnd T x,mapO (opnd T) lo.toList,mapO (opnd T) hi.toList,mapO (opnd T) mx.toList with
  |some v,some a,some b,some c=>val1 (zfb L t v a.head? b.head? c.head?) H
  |_,_,_,_=>none)=(match mapO opd (x::(lo.toList ++ (hi.toList ++ mx.toList))) with|some xs=>val1 (zxa L t lo.isSome hi.isSome mx.isSome (evs xs T)) H|none=>none):=by
 rcases lo with _|l<;>rcases hi with _|h<;>rcases mx with _|m <;>
  simp only [Option.toList,qk1,qk2,zpi,zwd,zna]
 ·cases opd x<;>rfl
 ·cases opd x<;>cases opd m<;>rfl
 ·cases opd x<;>cases opd h<;>rfl
 ·cases opd x<;>cases opd h<;>cases opd m<;>rfl
 ·cases opd x<;>cases opd l<;>rfl
 ·cases opd x<;>cases opd l<;>cases opd m<;>rfl
 ·cases opd x<;>cases opd l<;>cases opd h<;>rfl
 ·cases opd x<;>cases opd l<;>cases opd h<;>cases opd m<;>rfl
theorem zpl1 {L:Lk}{T:Tr AV}{H:AH}{o:Oper}{t:TypeId}{x:Operand}{lo hi mx:Option Operand}(ho:o.op= .slice t x lo hi mx) :
  evOp L T o H=(match mapO opd (x::(lo.toList ++ (hi.toList ++ mx.toList))) with|some xs=>val1 (zxa L t lo.isSome hi.isSome mx.isSome (evs xs T)) H|none=>none):=by
 rw [← zos];unfold evOp;rw [ho];rfl
theorem evs_len (xs:List O2) (T:Tr AV):(evs xs T).length=xs.length:=by
 induction xs with
 |nil=>rfl
 |cons a xs ih=>show (evs xs T).length+1=xs.length+1;rw [ih]
theorem zpy (xs ys:List O2) (T:Tr AV):evs (xs ++ ys) T=evs xs T ++ evs ys T:=by
 induction xs with
 |nil=>rfl
 |cons a xs ih=>show a.ev T::evs (xs ++ ys) T=a.ev T::(evs xs T ++ evs ys T);rw [ih]
theorem zql1 {α β:Type}{f:α->Option β}{l:List α}:∀{r:List β},mapO f l=some r->l.length=r.length:=by
 induction l with
 |nil=>intro r h;cases h;rfl
 |cons a l ih =>
  intro r h;rw [zwd] at h;cases hf:f a with
  |none=>rw [hf] at h;cases h
  |some b =>
   rw [hf] at h;cases hm:mapO f l with
   |none=>rw [hm] at h;cases h
   |some bs=>rw [hm] at h;cases h;simp [ih hm]
theorem zlp (xs ys:List AV):zln xs.length (xs ++ ys)=xs:=by
 induction xs with
 |nil=>rfl
 |cons a xs ih=>show a::zln xs.length (xs ++ ys)=a::xs;rw [ih]
theorem zar (xs ys:List AV):restN xs.length (xs ++ ys)=ys:=by
 induction xs with
 |nil=>rfl
 |cons a xs ih=>exact ih
theorem zuk (o:Oper) (w:Bool) (k:K2) (T:Tr AV) (H:AH) (hl:zia L o=false):runK L rec kk (node L o w k) T H=zfc L rec kk o k T H:=by
 obtain ⟨dst,op,ty,pos,after,guard⟩:=o;unfold node;rw [hl];cases op with
 |move x =>
  have he:evOp L T ⟨dst,.move x,ty,pos,after,guard⟩ H=val1 (opnd T x) H:=rfl;rw [zna] at he;cases hx:opd x with
  |none=>rw [hx] at he;simp only [hx];exact (zja he k).symm
  |some a=>rw [hx] at he;simp only [hx];exact run_mv a _ k T H he
 |assign x =>
  have he:evOp L T ⟨dst,.assign x,ty,pos,after,guard⟩ H=val1 (opnd T x) H:=rfl;rw [zna] at he;cases hx:opd x with
  |none=>rw [hx] at he;simp only [hx];exact (zja he k).symm
  |some a=>rw [hx] at he;simp only [hx];exact run_mv a _ k T H he
 |binOp op t x y yt =>
  have he:evOp L T ⟨dst,.binOp op t x y yt,ty,pos,after,guard⟩ H=(match opnd T x,opnd T y with|some v,some u=>val1 (evBin L op t x y v u) H|_,_=>none):=rfl
  rw [zna,zna] at he;cases hx:opd x with
  |none=>rw [hx] at he;simp only [hx];exact (zja he k).symm
  |some a =>
   rw [hx] at he;cases hy:opd y with
   |none=>rw [hy] at he;simp only [hx,hy];exact (zja he k).symm
   |some b =>
    rw [hy] at he;simp only [hx,hy];exact zol1 (binF op (evBin L op t x y)) a b ⟨dst,.binOp op t x y yt,ty,pos,after,guard⟩ k T H (by rw [zyl];exact he)
 |unOp op t x =>
  cases op with
  |not =>
   have he:evOp L T ⟨dst,.unOp .not t x,ty,pos,after,guard⟩ H=(match opnd T x with|some v=>val1 (evUn .not v) H|none=>none):=rfl
   rw [zna] at he;cases hx:opd x with
   |none=>rw [hx] at he;simp only [hx];exact (zja he k).symm
   |some a =>
    rw [hx] at he;simp only [hx];refine zmn _ a _ k T H (he.trans ?_);simp only;congr 1;cases a.ev T<;>first|rfl|(next b=>cases b<;>rfl)
  |_ =>
   have he:∀op,evOp L T ⟨dst,.unOp op t x,ty,pos,after,guard⟩ H=(match opnd T x with|some v=>val1 (evUn op v) H|none=>none):=fun _=>rfl
   simp only [zna] at he;cases hx:opd x with
   |none=>rw [hx] at he;simp only [hx];exact (zja (he _) k).symm
   |some a=>rw [hx] at he;simp only [hx];exact zmn _ a _ k T H (he _)
 |pick c a b =>
  have he:evOp L T ⟨dst,.pick c a b,ty,pos,after,guard⟩ H=(match opnd T c with|some (.bool true)=>val1 (opnd T a) H|some (.bool false)=>val1 (opnd T b) H|_=>none):=rfl
  rw [zna,zna,zna] at he;simp only [zwd,zpi];cases hx:opd c with
  |none=>exact zkp _ k T H
  |some x =>
   cases hy:opd a with
   |none=>exact zkp _ k T H
   |some y =>
    cases hz:opd b with
    |none=>exact zkp _ k T H
    |some z =>
     rw [hx,hy,hz] at he;refine zaw (fun xs _=>pickF xs) [x,y,z] ⟨dst,.pick c a b,ty,pos,after,guard⟩ k T H (he.trans ?_)
     show _=val1 (zcl1 none (fun b=>some (brec (z.ev T) (y.ev T) b)) (x.ev T)) H
     simp only;cases x.ev T<;>first|rfl|(next c=>cases c<;>rfl)
 |lookup t x ix ok =>
  have he:evOp L T ⟨dst,.lookup t x ix ok,ty,pos,after,guard⟩ H=(match opnd T x,opnd T ix with|some v,some u=>val1 (zjb L t v u ok H) H|_,_=>none):=rfl
  rw [zna,zna] at he;simp only [zwd,zpi];cases hx:opd x with
  |none=>rw [hx] at he;exact (zja he k).symm
  |some a =>
   rw [hx] at he;cases hy:opd ix with
   |none=>rw [hy] at he;exact (zja he k).symm
   |some b=>rw [hy] at he;exact zaw (fun xs H=>zjb L t (hd xs) (hd (tl xs)) ok H) [a,b] ⟨dst,.lookup t x ix ok,ty,pos,after,guard⟩ k T H he
 |typeAssert x ty0 t ok =>
  have he:evOp L T ⟨dst,.typeAssert x ty0 t ok,ty,pos,after,guard⟩ H=(match opnd T x with|some v=>val1 (ztd L v t ok) H|none=>none):=rfl
  rw [zna] at he;cases hx:opd x with
  |none=>rw [hx] at he;simp only [hx];exact (zja he k).symm
  |some a=>rw [hx] at he;simp only [hx];exact zmn (fun v=>ztd L v t ok) a ⟨dst,.typeAssert x ty0 t ok,ty,pos,after,guard⟩ k T H he
 |makeFunc fn a b =>
  cases fn with
  |func f =>
   have he:evOp L T ⟨dst,.makeFunc (.func f) a b,ty,pos,after,guard⟩ H=(match opnds T a.toList,opnds T b.toList with|some x,some y=>some (.val (.fn (.func f) x y) H)|_,_=>none):=by
    unfold evOp;simp only;cases opnds T a.toList<;>cases opnds T b.toList<;>rfl
   rw [zoe,zoe] at he;simp only;cases hx:mapO opd a.toList with
   |none=>rw [hx] at he;exact (zja he k).symm
   |some xs =>
    rw [hx] at he;cases hy:mapO opd b.toList with
    |none=>rw [hy] at he;exact (zja he k).symm
    |some ys =>
     rw [hy] at he;refine zaw (fun zs _=>some (.fn (.func f) (zln a.size zs) (restN a.size zs))) (xs ++ ys) ⟨dst,.makeFunc (.func f) a b,ty,pos,after,guard⟩ k T H (he.trans ?_)
     simp only;have hl:=evs_len xs T;have hl2:=zql1 hx;rw [zpy];have hsz:a.size=(evs xs T).length:=by rw [hl,← hl2];simp
     rw [hsz,zlp,zar];rfl
  |_=>exact zkp _ k T H
 |load t a =>
  have he:evOp L T ⟨dst,.load t a,ty,pos,after,guard⟩ H=(match opnd T a with|some v=>val1 (zue L t v H) H|none=>none):=rfl
  rw [zna] at he;cases hg:L.isAgg t with
  |none =>
   simp only [hg];refine (zja ?_ k).symm;rw [he];cases opd a with
   |none=>rfl
   |some x=>simp only;unfold zue zvb;simp only [hg];cases x.ev T<;>rfl
  |some g =>
   cases g with
   |true =>
    cases hs:L.size t with
    |none =>
     simp only [hg,hs];refine (zja ?_ k).symm;rw [he];cases opd a with
     |none=>rfl
     |some x=>simp only;unfold zue zvb;simp only [hg,hs];cases x.ev T<;>rfl
    |some s =>
     simp only [hg,hs];cases hx:opd a with
     |none=>rw [hx] at he;exact (zja he k).symm
     |some x=>rw [hx] at he;exact run_r1 (ldN s) x ⟨dst,.load t a,ty,pos,after,guard⟩ k T H (by rw [ldN_eq hg hs];exact he)
   |false =>
    simp only [hg];cases hx:opd a with
    |none=>rw [hx] at he;exact (zja he k).symm
    |some x=>rw [hx] at he;exact run_r1 ld1 x ⟨dst,.load t a,ty,pos,after,guard⟩ k T H (by rw [ld1_eq hg];exact he)
 |indexAddr t x ix =>
  have he:evOp L T ⟨dst,.indexAddr t x ix,ty,pos,after,guard⟩ H=(match opnd T x,opnd T ix with|some v,some u=>val1 (zib L t v u) H|_,_=>none):=rfl
  rw [zna,zna] at he;have hno:(∀a b,zib L t a b=none)->zfc L rec kk ⟨dst,.indexAddr t x ix,ty,pos,after,guard⟩ k T H=none:=fun h=>by
   refine zja ?_ k;rw [he];cases opd x<;>cases opd ix<;>first|rfl|(simp only;rw [h];rfl)
  have fin:∀f:AV->AV->Option AV,(∀a b,f a b=zib L t a b) ->
    runK L rec kk (orec K2.fail (fun a=>orec .fail (fun b=>.p2 f a b (dOf dst) k) (opd ix)) (opd x)) T H=zfc L rec kk ⟨dst,.indexAddr t x ix,ty,pos,after,guard⟩ k T H:=fun f hf=>by
   cases hx:opd x with
   |none=>rw [hx] at he;exact (zja he k).symm
   |some a =>
    rw [hx] at he;cases hy:opd ix with
    |none=>rw [hy] at he;exact (zja he k).symm
    |some b=>rw [hy] at he;exact zol1 f a b ⟨dst,.indexAddr t x ix,ty,pos,after,guard⟩ k T H (by rw [hf];exact he)
  cases hu:L.under t with
  |none=>simp only [hu];refine (hno fun a b=> ?_).symm;unfold zib;rw [hu];cases natOf b<;>cases a<;>rfl
  |some d =>
   cases d with
   |slice e =>
    cases hz:L.size e with
    |none=>simp only [hu,hz];refine (hno fun a b=> ?_).symm;unfold zib;rw [hu];cases natOf b<;>cases a<;>simp only [hz]
    |some z=>simp only [hu,hz];exact fin _ (fun a b=>ixS_eq hu hz a b)
   |array n e =>
    cases hz:L.size e with
    |none=>simp only [hu,hz];refine (hno fun a b=> ?_).symm;unfold zib;rw [hu];cases natOf b<;>cases a<;>simp only [hz]
    |some z=>simp only [hu,hz];exact fin _ (fun a b=>ixA_eq hu hz a b)
   |_=>simp only [hu];refine (hno fun a b=> ?_).symm;unfold zib;rw [hu];cases natOf b<;>cases a<;>rfl
 |fieldAddr s x f =>
  have he:evOp L T ⟨dst,.fieldAddr s x f,ty,pos,after,guard⟩ H=(match opnd T x with|some v=>val1 (zob L s v f) H|none=>none):=rfl
  rw [zna] at he;have hno:(∀a,zob L s a f=none)->zfc L rec kk ⟨dst,.fieldAddr s x f,ty,pos,after,guard⟩ k T H=none:=fun h=>by
   refine zja ?_ k;rw [he];cases opd x<;>first|rfl|(simp only;rw [h];rfl)
  cases hu:L.under s with
  |none=>simp only [hu];refine (hno fun a=> ?_).symm;unfold zob;rw [hu];cases a<;>rfl
  |some d =>
   cases d with
   |struct fields =>
    cases hf:nth fields.toList f with
    |none=>simp only [hu,hf];refine (hno fun a=> ?_).symm;unfold zob;rw [hu];cases a<;>simp only [hf]
    |some fd =>
     cases hz:L.size fd.type with
     |none=>simp only [hu,hf,hz];refine (hno fun a=> ?_).symm;unfold zob;rw [hu];cases a<;>simp only [hf,hz]
     |some z =>
      simp only [hu,hf,hz];cases h0:Nat.beq z 0 with
      |true=>refine (hno fun a=> ?_).symm;unfold zob;rw [hu];cases a<;>simp only [hf,hz,h0]
      |false =>
       cases hx:opd x with
       |none=>rw [hx] at he;exact (zja he k).symm
       |some a=>rw [hx] at he;exact zmn (fa fd.offset) a ⟨dst,.fieldAddr s x f,ty,pos,after,guard⟩ k T H (by rw [fa_eq hu hf hz h0];exact he)
   |_=>simp only [hu];refine (hno fun a=> ?_).symm;unfold zob;rw [hu];cases a<;>rfl
 |extract x ix =>
  have he:evOp L T ⟨dst,.extract x ix,ty,pos,after,guard⟩ H=(match opnd T x with|some (.tup vs)=>val1 (nth vs ix) H|_=>none):=rfl
  rw [zna] at he;cases hx:opd x with
  |none=>rw [hx] at he;simp only [hx];exact (zja he k).symm
  |some a =>
   rw [hx] at he;simp only [hx];refine zmn _ a _ k T H (he.trans ?_);simp only;cases a.ev T<;>first|rfl|(show val1 _ H=val1 (nthF _ _) H;rw [zch1])
 |field t x f =>
  have he:evOp L T ⟨dst,.field t x f,ty,pos,after,guard⟩ H=(match opnd T x with|some v=>val1 (zcj L t v f) H|none=>none):=rfl
  rw [zna] at he;cases hx:opd x with
  |none=>rw [hx] at he;simp only [hx];exact (zja he k).symm
  |some a=>rw [hx] at he;simp only [hx];exact zmn (fun v=>zcj L t v f) a _ k T H he
 |index t x ix =>
  have he:evOp L T ⟨dst,.index t x ix,ty,pos,after,guard⟩ H=(match opnd T x,opnd T ix with|some v,some u=>val1 (zvd L t v u) H|_,_=>none):=rfl
  rw [zna,zna] at he;cases hx:opd x with
  |none=>rw [hx] at he;simp only [hx];exact (zja he k).symm
  |some a =>
   rw [hx] at he;cases hy:opd ix with
   |none=>rw [hy] at he;simp only [hx,hy];exact (zja he k).symm
   |some b=>rw [hy] at he;simp only [hx,hy];exact zol1 (zvd L t) a b _ k T H he
 |makeInterface t x =>
  have he:evOp L T ⟨dst,.makeInterface t x,ty,pos,after,guard⟩ H=(match opnd T x with|some v=>val1 (zsa L t v) H|none=>none):=rfl
  rw [zna] at he;cases hx:opd x with
  |none=>rw [hx] at he;simp only [hx];exact (zja he k).symm
  |some a=>rw [hx] at he;simp only [hx];exact zmn (zsa L t) a _ k T H he
 |nilCheck x =>
  have he:evOp L T ⟨dst,.nilCheck x,ty,pos,after,guard⟩ H=(match opnd T x with
   |some (.ptr i o)=>some (.val (.ptr i o) H)
   |some (.ifc t v)=>some (.val (.ifc t v) H)
   |some (.fn (.func f) a b)=>some (.val (.fn (.func f) a b) H)
   |some (.yld l)=>some (.val (.yld l) H)
   |_=>none):=rfl
  rw [zna] at he;cases hx:opd x with
  |none=>rw [hx] at he;simp only [hx];exact (zja he k).symm
  |some a =>
   rw [hx] at he;simp only [hx];refine zmn nilF a _ k T H (he.trans ?_);simp only;cases a.ev T<;>first|rfl|(next f _ _=>cases f<;>rfl)
 |slice t x lo hi mx =>
  have he:evOp L T ⟨dst,.slice t x lo hi mx,ty,pos,after,guard⟩ H=(match opnd T x,mapO (opnd T) lo.toList,mapO (opnd T) hi.toList,mapO (opnd T) mx.toList with
   |some v,some a,some b,some c=>val1 (zfb L t v a.head? b.head? c.head?) H
   |_,_,_,_=>none):=rfl
  rw [zos] at he;cases hx:mapO opd (x::(lo.toList ++ (hi.toList ++ mx.toList))) with
  |none=>rw [hx] at he;simp only [hx];exact (zja he k).symm
  |some xs=>rw [hx] at he;simp only [hx];exact zaw (fun xs _=>zxa L t lo.isSome hi.isSome mx.isSome xs) xs _ k T H he
 |convert s d x =>
  have he:evOp L T ⟨dst,.convert s d x,ty,pos,after,guard⟩ H=(match opnd T x with|some v=>val2 (zxb L s d v H)|none=>none):=rfl
  rw [zna] at he;cases hd:L.under d with
  |none=>simp only [hd];exact zkp _ k T H
  |some dd =>
   cases dd with
   |int ki =>
    simp only [hd];have hs:∃ks,L.under s=some (.int ks):=by
     unfold zia zhh zfl zzj at hl;simp only [hd] at hl;cases hs:L.under s with
     |none=>rw [hs] at hl;cases hl
     |some sd =>
      rw [hs] at hl;cases sd<;>first|exact ⟨_,rfl⟩|cases hl
    obtain ⟨ks,hs⟩:=hs;cases hx:opd x with
    |none=>rw [hx] at he;exact (zja he k).symm
    |some a =>
     rw [hx] at he;refine zmn (cvI ki) a ⟨dst,.convert s d x,ty,pos,after,guard⟩ k T H (he.trans ?_);have hc:zxb L s d (a.ev T) H=orec none (fun v=>some (v,H)) (cvI ki (a.ev T)):=by
      unfold zxb;rw [hs,hd];cases a.ev T<;>first|rfl|(show some (AV.int ki (fwrap ki _),H)=some (AV.int ki (fw ki _),H);rw [zge])
     show val2 (zxb L s d (a.ev T) H)=_
     rw [hc];cases cvI ki (a.ev T)<;>rfl
   |_=>simp only [hd];exact zkp _ k T H
 |build t ps =>
  have he:evOp L T ⟨dst,.build t ps,ty,pos,after,guard⟩ H=(match mapO (fun p=>match opnd T p.2 with|some v=>some (p.1,v)|none=>none) ps.toList with|some ps=>val1 (zua L t ps) H|none=>none):=rfl
  rw [zns] at he;cases hx:mapO opd (ps.toList.map fun p=>p.2) with
  |none=>rw [hx] at he;simp only [hx];exact (zja he k).symm
  |some xs=>rw [hx] at he;simp only [hx];exact zaw (fun xs _=>zua L t (zipF (ps.toList.map fun p=>p.1) xs)) xs _ k T H he
 |call c =>
  obtain ⟨callee,args,ats⟩:=c;cases callee with
  |builtin b =>
   have he:evOp L T ⟨dst,.call ⟨.builtin b,args,ats⟩,ty,pos,after,guard⟩ H=(match opnds T args.toList with|none=>none|some as=>val2 (zpb L b ats.toList as H)):=rfl
   rw [zoe] at he;simp only;cases hx:mapO opd args.toList with
   |none=>rw [hx] at he;exact (zja he k).symm
   |some xs =>
    rw [hx] at he;refine zaw (fun xs H=>fstO (zea b L ats.toList xs H)) xs ⟨dst,.call ⟨.builtin b,args,ats⟩,ty,pos,after,guard⟩ k T H ?_
    have hs:=fun r=>zjp (rec:=fun _=>none) (T:=T) (H:=H) (r:=r) hl
    simp only at he ⊢
    rw [zzl];unfold zva at hs;rw [he] at hs ⊢
    cases hb:zpb L b ats.toList (evs xs T) H with
    |none=>rfl
    |some p =>
     rw [hb] at hs;have:=hs (p.1,p.2) rfl;show some (Next1.val p.1 p.2)=some (Next1.val p.1 H)
     rw [← this]
  |_=>exact zkp _ k T H
 |_=>exact zkp _ k T H
theorem zlf {o:Oper}{T:Tr AV}{H:AH}{w:Bool}{x:Option (AV×AH)}(h:evOp L T o (hIn w H)=val2 x) (k:K2) :
  zmc L rec kk o w k T H=orec none (fun r=>Prod.rec (motive:=fun _=>Option Out) (fun v H'=>runK L rec kk k (putS (dOf o.dst) v T) (hOut w H H')) r) x:=by
 unfold zmc zva;rw [h];cases x with
 |none=>rfl
 |some r=>show runK L rec kk k (putT T o.dst r.1) (hOut w H r.2)=_;rw [← zec];rfl
theorem zqd1 (f:List AV->AH->Option (AV×AH)) (xs:List O2) (o:Oper) (w:Bool) (k:K2) (T:Tr AV) (H:AH) (h:evOp L T o (hIn w H)=val2 (f (evs xs T) (hIn w H))):runK L rec kk (.hn w f xs (dOf o.dst) k) T H=zmc L rec kk o w k T H:=by
 rw [zlf h];rfl
theorem run_cn (f:List AV->AH->Option Next1) (xs:List O2) (o:Oper) (w:Bool) (k:K2) (T:Tr AV) (H:AH) (h:evOp L T o (hIn w H)=f (evs xs T) (hIn w H)):runK L rec kk (.cn w f xs (dOf o.dst) k) T H=zmc L rec kk o w k T H:=by
 show orec none (nextO rec (hIn w H) (fun v H'=>runK L rec kk k (putS (dOf o.dst) v T) (hOut w H H'))) (f (evs xs T) (hIn w H))=_
 unfold zmc zva;rw [h];cases f (evs xs T) (hIn w H) with
 |none=>rfl
 |some nx =>
  cases nx with
  |val v H'=>show runK L rec kk k (putS (dOf o.dst) v T) (hOut w H H')=_;rw [zec]
  |enter g args =>
   show orec none (outO (fun v H'=>runK L rec kk k (putS (dOf o.dst) v T) (hOut w H H'))) (rec (.call g args (hIn w H)))=_
   simp only;cases rec (.call g args (hIn w H)) with
   |none=>rfl
   |some out=>show runK L rec kk k (putS (dOf o.dst) (dflt (Tr.getLo .d0 .d0 out.T)) T) (hOut w H out.H)=_;rw [zuh,zec]
  |round l args =>
   show orec none (outO (fun v H'=>runK L rec kk k (putS (dOf o.dst) v T) (hOut w H H'))) (rec (.round l args (hIn w H)))=_
   simp only;cases rec (.round l args (hIn w H)) with
   |none=>rfl
   |some out=>show runK L rec kk k (putS (dOf o.dst) (dflt (Tr.getLo .d0 .d0 out.T)) T) (hOut w H out.H)=_;rw [zuh,zec]
theorem zqy {o:Oper}{w:Bool}{k:K2}{T:Tr AV}{H:AH}{t:TypeId}{m ky x:Operand}(he:evOp L T o (hIn w H)=(match opnd T m,opnd T ky,opnd T x with|some a,some b,some c=>unit1 (zoa L t a b c (hIn w H))|_,_,_=>none)) :
  runK L rec kk (orec .fail (fun xs=>.hn w (fun xs H=>unitF (zoa L t (hd xs) (hd (tl xs)) (hd (tl (tl xs))) H)) xs (dOf o.dst) k) (mapO opd [m,ky,x])) T H=zmc L rec kk o w k T H:=by
 rw [zna,zna,zna] at he;simp only [zwd,zpi];cases hx:opd m with
 |none=>rw [hx] at he;exact (zwa he k).symm
 |some a =>
  rw [hx] at he;cases hy:opd ky with
  |none=>rw [hy] at he;exact (zwa he k).symm
  |some b =>
   rw [hy] at he;cases hz:opd x with
   |none=>rw [hz] at he;exact (zwa he k).symm
   |some c =>
    rw [hz] at he;refine zqd1 (fun xs H=>unitF (zoa L t (hd xs) (hd (tl xs)) (hd (tl (tl xs))) H)) [a,b,c] o w k T H (he.trans ?_)
    show unit1 (zoa L t (a.ev T) (b.ev T) (c.ev T) (hIn w H))=val2 (unitF (zoa L t (a.ev T) (b.ev T) (c.ev T) (hIn w H)))
    cases zoa L t (a.ev T) (b.ev T) (c.ev T) (hIn w H)<;>rfl
theorem zvk (o:Oper) (w:Bool) (k:K2) (T:Tr AV) (H:AH) (hl:zia L o=true):runK L rec kk (node L o w k) T H=zmc L rec kk o w k T H:=by
 obtain ⟨dst,op,ty,pos,after,guard⟩:=o;unfold node;rw [hl];cases op with
 |alloc e =>
  have he:evOp L T ⟨dst,.alloc e,ty,pos,after,guard⟩ (hIn w H)=(match L.zero e,L.size e with|some z,some s=>some (.val (.ptr (hIn w H).next 0) ((hIn w H).new (.cells z.toC e s false false)))|_,_=>none):=rfl
  cases hz:L.zero e with
  |none=>rw [hz] at he;simp only [hz];exact (zwa he k).symm
  |some z =>
   cases hs:L.size e with
   |none=>rw [hz,hs] at he;simp only [hz,hs];exact (zwa he k).symm
   |some s =>
    rw [hz,hs] at he;simp only [hz,hs];rw [zlf (x:=alF z.toC e s (hIn w H)) (by rw [he,zod1];rfl)]
    rfl
 |box e x =>
  have he:evOp L T ⟨dst,.box e x,ty,pos,after,guard⟩ (hIn w H)=(match opnd T x,L.size e with|some v,some s=>some (.val (.ptr (hIn w H).next 0) ((hIn w H).new (.cells v.toC e s false false)))|_,_=>none):=rfl
  rw [zna] at he;cases hs:L.size e with
  |none =>
   rw [hs] at he;simp only [hs];refine (zwa ?_ k).symm;rw [he];cases opd x<;>rfl
  |some s =>
   rw [hs] at he;simp only [hs];cases hx:opd x with
   |none=>rw [hx] at he;exact (zwa he k).symm
   |some a =>
    rw [hx] at he;rw [zlf (x:=alF (a.ev T).toC e s (hIn w H)) (by rw [he,zod1];rfl)]
    rfl
 |store t a x =>
  have he:evOp L T ⟨dst,.store t a x,ty,pos,after,guard⟩ (hIn w H)=(match opnd T a,opnd T x with|some v,some u=>unit1 (zyc L t v u (hIn w H))|_,_=>none):=rfl
  rw [zna,zna] at he;have fin:∀f:AV->AV->AH->Option AH,(∀a b H,f a b H=zyc L t a b H) ->
    runK L rec kk (orec K2.fail (fun a=>orec .fail (fun b=>.st w f a b (dOf dst) k) (opd x)) (opd a)) T H=zmc L rec kk ⟨dst,.store t a x,ty,pos,after,guard⟩ w k T H:=fun f hf=>by
   cases ha:opd a with
   |none=>rw [ha] at he;exact (zwa he k).symm
   |some a =>
    rw [ha] at he;cases hx:opd x with
    |none=>rw [hx] at he;exact (zwa he k).symm
    |some b =>
     rw [hx] at he;rw [zlf (x:=orec none (fun H'=>some (AV.undef,H')) (f (a.ev T) (b.ev T) (hIn w H))) (by
      rw [he,hf];simp only;cases zyc L t (a.ev T) (b.ev T) (hIn w H)<;>rfl)]
     show orec none (fun H'=>runK L rec kk k (putS (dOf dst) .undef T) (hOut w H H')) (f (a.ev T) (b.ev T) (hIn w H))=_
     cases f (a.ev T) (b.ev T) (hIn w H)<;>rfl
  cases hs:L.size t with
  |none =>
   simp only [hs];refine (zwa ?_ k).symm;rw [he];cases opd a<;>cases opd x<;>first
    |rfl
    |(simp only;unfold zyc;rw [hs];cases O2.ev _ T<;>rfl)
  |some s =>
   simp only [hs];cases hb:Nat.beq s 1 with
   |true =>
    have hs1:=qi hb;subst hs1;exact fin _ (fun a b H=>zll1 hs a b H)
   |false=>exact fin _ (fun a b H=>stN_eq hs a b H)
 |convert s d x =>
  have he:evOp L T ⟨dst,.convert s d x,ty,pos,after,guard⟩ (hIn w H)=(match opnd T x with|some v=>val2 (zxb L s d v (hIn w H))|none=>none):=rfl
  rw [zna] at he;have other:runK L rec kk (orec K2.fail (fun x=>.m1 w (zxb L s d) x (dOf dst) k) (opd x)) T H=zmc L rec kk ⟨dst,.convert s d x,ty,pos,after,guard⟩ w k T H:=by
   cases hx:opd x with
   |none=>rw [hx] at he;exact (zwa he k).symm
   |some a=>rw [hx] at he;rw [zlf he];rfl
  cases hs:L.under s with
  |none=>simp only [hs];exact other
  |some sd =>
   cases hd:L.under d with
   |none=>simp only [hs,hd];exact other
   |some dd =>
    cases dd with
    |int ki =>
     simp only [hs,hd];cases hx:opd x with
     |none=>rw [hx] at he;exact (zwa he k).symm
     |some a =>
      rw [hx] at he;rw [zlf he];show orec none (fun v=>runK L rec kk k (putS (dOf dst) v T) H) (cvI ki (a.ev T))=_
      have hc:zxb L s d (a.ev T) (hIn w H)=orec none (fun v=>some (v,hIn w H)) (cvI ki (a.ev T)):=by
       unfold zxb;rw [hs,hd];cases a.ev T<;>first|rfl|(cases sd<;>rfl)|(show some (AV.int ki (fwrap ki _),hIn w H)=some (AV.int ki (fw ki _),hIn w H);rw [zge])
      rw [hc];cases cvI ki (a.ev T) with
      |none=>rfl
      |some v=>show runK L rec kk k (putS (dOf dst) v T) H=runK L rec kk k (putS (dOf dst) v T) (hOut w H (hIn w H));rw [zml1]
    |_=>simp only [hs,hd];exact other
 |buildSlice t n ps =>
  have he:evOp L T ⟨dst,.buildSlice t n ps,ty,pos,after,guard⟩ (hIn w H)=(match mapO (fun p=>match opnd T p.2 with|some v=>some (p.1,v)|none=>none) ps.toList with|some ps=>val2 (zsb L t n ps (hIn w H))|none=>none):=rfl
  rw [zns] at he;cases hx:mapO opd (ps.toList.map fun p=>p.2) with
  |none=>rw [hx] at he;simp only [hx];exact (zwa he k).symm
  |some xs =>
   rw [hx] at he;simp only [hx];show runK L rec kk (match L.under t with
    |some (.slice e)=>(match L.size e,L.zero e with
     |some s,some z=>(match Nat.ble (n*s) 16777216 && Nat.beq (len z.cells) s with
      |true=>K2.hn w (fun xs H=>bsF s n z e (zipF (ps.toList.map fun p=>p.1) xs) H) xs (dOf dst) k
      |false=>.fail)
     |_,_=>.fail)
    |_=>.fail) T H=_
   have hno:(∀parts H,zsb L t n parts H=none)->zmc L rec kk ⟨dst,.buildSlice t n ps,ty,pos,after,guard⟩ w k T H=none:=fun h=>zwa (by rw [he];simp only;rw [h];rfl) k
   split
   ·next e hu =>
    split
    ·next s z hs hz =>
     split
     ·next hb=>exact zqd1 (fun xs H=>bsF s n z e (zipF (ps.toList.map fun p=>p.1) xs) H) xs ⟨dst,.buildSlice t n ps,ty,pos,after,guard⟩ w k T H (by rw [bsF_eq hu hs hz hb];exact he)
     ·next hb=>exact (hno fun parts H=>by unfold zsb;rw [hu];simp only [hs,hz,hb]).symm
    ·next hno2 =>
     refine (hno fun parts H=> ?_).symm
     unfold zsb;rw [hu];simp only
     try (split<;>first|rfl|(next s z hs hz=>exact (hno2 s z hs hz).elim))
   ·next hno2 =>
    refine (hno fun parts H=> ?_).symm
    unfold zsb
    try (split<;>first|rfl|(next e hu=>exact (hno2 e hu).elim))
 |mapUpdate t m ky x =>
  have he:evOp L T ⟨dst,.mapUpdate t m ky x,ty,pos,after,guard⟩ (hIn w H)=(match opnd T m,opnd T ky,opnd T x with|some a,some b,some c=>unit1 (zoa L t a b c (hIn w H))|_,_,_=>none):=rfl
  exact zqy he
 |insert t m ky x =>
  have he:evOp L T ⟨dst,.insert t m ky x,ty,pos,after,guard⟩ (hIn w H)=(match opnd T m,opnd T ky,opnd T x with|some a,some b,some c=>unit1 (zoa L t a b c (hIn w H))|_,_,_=>none):=rfl
  exact zqy he
 |makeMap t r =>
  cases r with
  |some x=>exact run_gh _ w k T H
  |none =>
   have he:evOp L T ⟨dst,.makeMap t none,ty,pos,after,guard⟩ (hIn w H)=some (.val (.map (hIn w H).next) ((hIn w H).new (.map [] 0))):=rfl;rw [zlf (x:=zzv (hIn w H)) (by rw [he];unfold zzv;rw [zsh];rfl)]
   rfl
 |makeSlice t l c =>
  have he:evOp L T ⟨dst,.makeSlice t l c,ty,pos,after,guard⟩ (hIn w H)=(match opnd T l,opnd T c with|some v,some u=>val2 (zpc L t v u (hIn w H))|_,_=>none):=rfl
  rw [zna,zna] at he;simp only [zwd,zpi];cases hx:opd l with
  |none=>rw [hx] at he;exact (zwa he k).symm
  |some a =>
   rw [hx] at he;cases hy:opd c with
   |none=>rw [hy] at he;exact (zwa he k).symm
   |some b=>rw [hy] at he;exact zqd1 (fun xs H=>zpc L t (hd xs) (hd (tl xs)) H) [a,b] ⟨dst,.makeSlice t l c,ty,pos,after,guard⟩ w k T H he
 |call c =>
  obtain ⟨callee,args,ats⟩:=c;cases callee with
  |value f =>
   have dyn:runK L rec kk (orec K2.fail (fun xs=>.cn w (fun xs _=>zdc (hd xs) (tl xs)) xs (dOf dst) k) (mapO opd (f::args.toList))) T H=zmc L rec kk ⟨dst,.call ⟨.value f,args,ats⟩,ty,pos,after,guard⟩ w k T H:=by
    have he:evOp L T ⟨dst,.call ⟨.value f,args,ats⟩,ty,pos,after,guard⟩ (hIn w H)=(match opnds T args.toList with|none=>none|some as=>(match opnd T f with|some g=>zdc g as|none=>none)):=rfl
    rw [zoe,zna] at he;simp only [zwd];cases hx:opd f with
    |none =>
     rw [hx] at he;refine (zwa (he.trans ?_) k).symm;cases mapO opd args.toList<;>rfl
    |some a =>
     rw [hx] at he;cases hm:mapO opd args.toList with
     |none=>rw [hm] at he;exact (zwa he k).symm
     |some xs=>rw [hm] at he;exact run_cn (fun xs _=>zdc (hd xs) (tl xs)) (a::xs) ⟨dst,.call ⟨.value f,args,ats⟩,ty,pos,after,guard⟩ w k T H he
   cases f with
   |func g =>
    have he:evOp L T ⟨dst,.call ⟨.value (.func g),args,ats⟩,ty,pos,after,guard⟩ (hIn w H)=(match opnds T args.toList with|none=>none|some as=>some (.enter g ([] ++ as ++ []))):=rfl
    rw [zoe] at he;simp only;cases hm:mapO opd args.toList with
    |none=>rw [hm] at he;exact (zwa he k).symm
    |some xs =>
     rw [hm] at he;simp only [qk1,qy1] at he;show orec none (fun o=>Out.rec (motive:=fun _=>Option Out) (fun _ T' H'=>runK L rec kk k (putS (dOf dst) (dflt (Tr.getLo .d0 .d0 T')) T) (hOut w H H')) o) (rec (.call g (evs xs T) (hIn w H)))=_
     unfold zmc zva;rw [he];simp only;cases rec (.call g (evs xs T) (hIn w H)) with
     |none=>rfl
     |some out =>
      show runK L rec kk k (putS (dOf dst) (dflt (Tr.getLo .d0 .d0 out.T)) T) (hOut w H out.H)=runK L rec kk k (putT T dst (zvg out)) (hOut w H out.H)
      rw [zuh,zec]
   |_=>exact dyn
  |invoke r name =>
   have he:evOp L T ⟨dst,.call ⟨.invoke r name,args,ats⟩,ty,pos,after,guard⟩ (hIn w H)=(match opnds T args.toList with|none=>none|some as=>(match opnd T r with|some v=>zjd L v name as (hIn w H)|none=>none)):=rfl
   rw [zoe,zna] at he;simp only [zwd];cases hx:opd r with
   |none =>
    rw [hx] at he;refine (zwa (he.trans ?_) k).symm;cases mapO opd args.toList<;>rfl
   |some a =>
    rw [hx] at he;cases hm:mapO opd args.toList with
    |none=>rw [hm] at he;exact (zwa he k).symm
    |some xs=>rw [hm] at he;exact run_cn (fun xs H=>zjd L (hd xs) name (tl xs) H) (a::xs) ⟨dst,.call ⟨.invoke r name,args,ats⟩,ty,pos,after,guard⟩ w k T H he
  |builtin b =>
   have he:evOp L T ⟨dst,.call ⟨.builtin b,args,ats⟩,ty,pos,after,guard⟩ (hIn w H)=(match opnds T args.toList with|none=>none|some as=>val2 (zpb L b ats.toList as (hIn w H))):=rfl
   rw [zoe] at he;simp only;cases hm:mapO opd args.toList with
   |none=>rw [hm] at he;exact (zwa he k).symm
   |some xs=>rw [hm] at he;exact zqd1 (znl1 L b ats.toList) xs _ w k T H (by rw [zpd1];exact he)
 |_=>exact run_gh _ w k T H
end
noncomputable section
def nodeS (L:Lk) (o:Oper) (k:K2):K2 :=
 match o.op with
 | .slice t x lo hi none=>orec (.ge o (dOf o.dst) k) (fun xs=>.ls (fun xs _=>zxa L t lo.isSome hi.isSome false xs) xs o (dOf o.dst) k) (mapO opd (x::(lo.toList ++ (hi.toList ++ []))))
 |_=>node L o false k
def compG (all:List Oper) (o:Oper) (n:K2) (k:K2):K2 :=
 match o.guard with
 |none=>n
 |some g=>(match nth all g.1 with
  |some oj=>(match oj.dst with
   |some d=>.gd (sOf d) g.2 (dOf o.dst) n k
   |none=>.sk (dOf o.dst) k)
  |none=>.sk (dOf o.dst) k)
def zps (L:Lk) (all:List Oper) (ops:List Oper):K2:=lrec (β:=K2) .done (fun o _ ih=>compG all o (nodeS L o ih) ih) ops
def zwk (o:Op):Bool:=match o with| .store _ _ _=>true|_=>false
def nodeW (L:Lk) (x:Ent) (pre:List Ent) (k:K2):K2 :=
 match x.2.2.op with
 | .call c=>(match c.callee with
  | .value f=>(match f with
   | .func g=>(match mapO opd c.args.toList with
    |some xs=>.cw (zth x L pre []) g xs (dOf x.2.2.dst) k
    |none=>.gw x pre (dOf x.2.2.dst) k)
   |_=>.gw x pre (dOf x.2.2.dst) k)
  |_=>.gw x pre (dOf x.2.2.dst) k)
 |_=>.gw x pre (dOf x.2.2.dst) k
def nodeD (L:Lk) (x:Ent) (pre:List Ent) (k:K2):K2 :=
 match zih L x pre with
 |false=>node L x.2.2 false k
 |true=>(match zwk x.2.2.op || zsf x.2.2 with|true=>nodeW L x pre k|false=>node L x.2.2 true k)
def znn (L:Lk) (all:List Oper) (pl:List Ent):List Ent->K2 :=
 lrec (β:=List Ent->K2) (fun _=>.done) (fun x _ ih pre=>compG all x.2.2 (nodeD L x pre (ih (x::pre))) (match loose L x pre with|true=>.fail|false=>ih (x::pre))) pl
def zqs (L:Lk) (ops:List Oper) (draw:Bool):K2 :=
 match draw with
 |false=>zps L ops ops
 |true=>(match plan L ops with|some pl=>znn L ops pl []|none=>.fail)
section
variable {L:Lk}{rec:Rec}{kk:Tr AV->AH->Option Out}
theorem zrd1 (want:Bool) (o:Option AV):ztk want o=(match o with|some (.bool b)=>(match b,want with|true,true=>true|false,false=>true|_,_=>false)|_=>false):=by
 cases o with
 |none=>rfl
 |some v=>cases v<;>first|rfl|(next b=>cases b<;>cases want<;>rfl)
theorem run_gd (s:S2) (want:Bool) (d:Option S2) (a b:K2) (T:Tr AV) (H:AH) :
  runK L rec kk (.gd s want d a b) T H=brec (runK L rec kk b (putS d .undef T) H) (runK L rec kk a T H) (ztk want (s.get T)):=rfl
theorem run_sk (d:Option S2) (k:K2) (T:Tr AV) (H:AH):runK L rec kk (.sk d k) T H=runK L rec kk k (putS d .undef T) H:=rfl
theorem zrs (all:List Oper) (o:Oper) (n k:K2) (T:Tr AV) (H:AH) :
  runK L rec kk (compG all o n k) T H=(match zac all T o with|true=>runK L rec kk n T H|false=>runK L rec kk k (putT T o.dst .undef) H):=by
 unfold compG zac;cases hg:o.guard with
 |none=>rfl
 |some g =>
  obtain ⟨j,want⟩:=g;simp only;cases hn:nth all j with
  |none=>simp only;rw [run_sk,zec]
  |some oj =>
   simp only;cases hd:oj.dst with
   |none=>simp only;rw [run_sk,zec]
   |some d =>
    simp only;rw [run_gd,zrk,zec,zrd1];cases T.get d with
    |none=>rfl
    |some v=>cases v<;>first|rfl|(next b=>cases b<;>cases want<;>rfl)
theorem zbw {T:Tr AV}{o:Oper}{H:AH}(h:∀t x lo hi,o.op≠ .slice t x lo hi none):evEnd L T o H=none:=by
 unfold evEnd;split
 ·next t x lo hi ho=>exact absurd ho (h t x lo hi)
 ·rfl
theorem zrl1 (o:Oper) (k:K2) (T:Tr AV) (H:AH):runK L rec kk (node L o false k) T H=(match zva L rec T o H with|some r=>runK L rec kk k (putT T o.dst r.1) r.2|none=>none):=by
 cases hl:zia L o with
 |false =>
  rw [zuk o false _ T H hl];unfold zfc;cases he:zva L rec T o H with
  |none=>rfl
  |some r=>simp only;rw [zjp hl he]
 |true =>
  rw [zvk o false _ T H hl];rfl
theorem zsd1 (o:Oper) (k:K2) (T:Tr AV) (H:AH):runK L rec kk (nodeS L o k) T H=(match zzf L rec T o H with|some r=>runK L rec kk k (putT T o.dst r.1) r.2|none=>none):=by
 unfold nodeS;split
 ·next t x lo hi hop =>
  have he:=zpl1 (L:=L) (T:=T) (H:=H) hop;cases hx:mapO opd (x::(lo.toList ++ (hi.toList ++ []))) with
  |none =>
   show orec none (fun r=>Prod.rec (motive:=fun _=>Option Out) (fun v H'=>runK L rec kk k (putS (dOf o.dst) v T) H') r) (zzf L rec T o H)=_
   cases zzf L rec T o H with
   |none=>rfl
   |some r=>show runK L rec kk k (putS (dOf o.dst) r.1 T) r.2=_;rw [zec]
  |some xs =>
   have hx':mapO opd (x::(lo.toList ++ (hi.toList ++ (none:Option Operand).toList)))=some xs:=hx;rw [hx'] at he;show orec (orec none (prodO (fun v H'=>runK L rec kk k (putS (dOf o.dst) v T) H')) (evEnd L T o H)) (fun v=>runK L rec kk k (putS (dOf o.dst) v T) H) (zxa L t lo.isSome hi.isSome false (evs xs T))=_
   unfold zzf zva;rw [he];have hf:(none:Option Operand).isSome=false:=rfl;simp only [hf];cases zxa L t lo.isSome hi.isSome false (evs xs T) with
   |none =>
    show orec none (prodO (fun v H'=>runK L rec kk k (putS (dOf o.dst) v T) H')) (evEnd L T o H)=match (match evEnd L T o H with|some r=>some r|none=>none) with|some r=>runK L rec kk k (putT T o.dst r.1) r.2|none=>none
    cases evEnd L T o H with
    |none=>rfl
    |some r=>show runK L rec kk k (putS (dOf o.dst) r.1 T) r.2=_;rw [zec]
   |some v=>show runK L rec kk k (putS (dOf o.dst) v T) H=runK L rec kk k (putT T o.dst v) H;rw [zec]
 ·next hop =>
  rw [zrl1];unfold zzf;cases zva L rec T o H with
  |some r=>rfl
  |none=>simp only;rw [zbw (fun t x lo hi h=>hop t x lo hi h)]
theorem zcw (all:List Oper) (ops:List Oper):∀(T:Tr AV) (H:AH),runK L rec kk (zps L all ops) T H=(match evOps L rec all ops T H with|some r=>kk r.1 r.2|none=>none):=by
 induction ops with
 |nil=>intro T H;rfl
 |cons o ops ih =>
  intro T H;show runK L rec kk (compG all o (nodeS L o (zps L all ops)) (zps L all ops)) T H=match (match zac all T o with
   |true=>(match zzf L rec T o H with
    |some r=>evOps L rec all ops (putT T o.dst r.1) r.2
    |none=>none)
   |false=>evOps L rec all ops (putT T o.dst .undef) H) with|some r=>kk r.1 r.2|none=>none
  rw [zrs];cases zac all T o with
  |false=>simp only;exact ih _ _
  |true =>
   simp only;rw [zsd1];cases zzf L rec T o H with
   |none=>rfl
   |some r=>simp only;rw [ih]
theorem zss {L:Lk}{T:Tr AV}{x:Ent}{pre:List Ent}(h:zwk x.2.2.op=false):far L T x pre=false:=by
 unfold far;split
 ·next ho=>rw [ho] at h;cases h
 ·rfl
theorem zdw {L:Lk}{o:Oper}(h:zwk o.op=true):zia L o=true:=by
 unfold zwk at h;split at h
 ·next ho=>unfold zia zhh;rw [ho];rfl
 ·cases h
theorem zry {L:Lk}{o:Oper}(h:zsf o=true):zia L o=true:=by
 unfold zsf at h;split at h
 ·next c ho =>
  unfold zia zhh zfl zzj;rw [ho];simp only;cases hc:c.callee with
  |builtin b=>rw [hc] at h;cases b<;>first|rfl|cases h
  |_=>rfl
 ·cases h
theorem ztd1 (x:Ent) (pre:List Ent) (k:K2) (T:Tr AV) (H:AH):runK L rec kk (.gw x pre (dOf x.2.2.dst) k) T H=(match far L T x pre with
      |true=>(match zva L rec T x.2.2 H with
       |some r=>runK L rec kk k (putT T x.2.2.dst r.1) r.2
       |none=>none)
      |false=>(match zid L rec T x pre H with
       |some r=>runK L rec kk k (putT T x.2.2.dst r.1) r.2
       |none=>none)):=by
 show brec
  (orec none (fun r=>Prod.rec (motive:=fun _=>Option Out) (fun v H'=>runK L rec kk k (putS (dOf x.2.2.dst) v T) H') r) (zid L rec T x pre H))
  (orec none (fun r=>Prod.rec (motive:=fun _=>Option Out) (fun v H'=>runK L rec kk k (putS (dOf x.2.2.dst) v T) H') r) (zva L rec T x.2.2 H)) (far L T x pre)=_
 cases far L T x pre with
 |true =>
  simp only [zpm];cases zva L rec T x.2.2 H with
  |none=>rfl
  |some r=>show runK L rec kk k (putS (dOf x.2.2.dst) r.1 T) r.2=_;rw [zec]
 |false =>
  simp only [zzb1];cases zid L rec T x pre H with
  |none=>rfl
  |some r=>show runK L rec kk k (putS (dOf x.2.2.dst) r.1 T) r.2=_;rw [zec]
theorem zam {o:Oper}{c:Call}{g:FuncId}{xs:List O2}(ho:o.op= .call c) (hc:c.callee= .value (.func g)) (hx:mapO opd c.args.toList=some xs) (T:Tr AV) (H:AH) :
  zva L rec T o H=(match rec (.call g (evs xs T) H) with|some out=>some (zvg out,out.H)|none=>none):=by
 have he:evOp L T o H=(match opnds T c.args.toList with|none=>none|some as=>some (.enter g ([] ++ as ++ []))):=by
  unfold evOp;rw [ho];simp only [hc];rfl
 rw [zoe,hx] at he;simp only [qk1,qy1] at he;unfold zva;rw [he];simp only;cases rec (.call g (evs xs T) H)<;>rfl
theorem zud1 (x:Ent) (pre:List Ent) (k:K2) (T:Tr AV) (H:AH):runK L rec kk (nodeW L x pre k) T H=(match far L T x pre with
      |true=>(match zva L rec T x.2.2 H with
       |some r=>runK L rec kk k (putT T x.2.2.dst r.1) r.2
       |none=>none)
      |false=>(match zid L rec T x pre H with
       |some r=>runK L rec kk k (putT T x.2.2.dst r.1) r.2
       |none=>none)):=by
 unfold nodeW;split
 ·next c ho =>
  split
  ·next f hc =>
   split
   ·next g =>
    split
    ·next xs hx =>
     have hs:zwk x.2.2.op=false:=by rw [ho];rfl
     have hcall:zsf x.2.2=true:=by unfold zsf;rw [ho];simp only [hc]
     rw [zss hs];simp only;unfold zid;rw [hcall];simp only;rw [zms];show orec
      (orec none (outO (fun v H'=>runK L rec kk k (putS (dOf x.2.2.dst) v T) (hOut true H H'))) (rec (.call g (evs xs T) (hIn true H))))
      (fun js=>orec none (outO (fun v H'=>brec none (runK L rec kk k (putS (dOf x.2.2.dst) v T) H') (zwg H H' js))) (rec (.call g (evs xs T) H)))
      (ptrsO (zth x L pre []) T)=_
     cases ptrsO (zth x L pre []) T with
     |none =>
      simp only;rw [show ({H with lo:=H.next}:AH)=hIn true H from rfl,zam ho hc hx]
      show orec none _ (rec (.call g (evs xs T) (hIn true H)))=_
      cases rec (.call g (evs xs T) (hIn true H)) with
      |none=>rfl
      |some out =>
       show runK L rec kk k (putS (dOf x.2.2.dst) (dflt (Tr.getLo .d0 .d0 out.T)) T) (hOut true H out.H)=runK L rec kk k (putT T x.2.2.dst (zvg out)) (hOut true H out.H)
       rw [zuh,zec]
     |some js =>
      simp only;rw [zam ho hc hx];show orec none _ (rec (.call g (evs xs T) H))=_
      cases rec (.call g (evs xs T) H) with
      |none=>rfl
      |some out =>
       show brec none (runK L rec kk k (putS (dOf x.2.2.dst) (dflt (Tr.getLo .d0 .d0 out.T)) T) out.H) (zwg H out.H js)=_
       simp only;cases zwg H out.H js with
       |false=>rfl
       |true=>show runK L rec kk k (putS (dOf x.2.2.dst) (dflt (Tr.getLo .d0 .d0 out.T)) T) out.H=runK L rec kk k (putT T x.2.2.dst (zvg out)) out.H;rw [zuh,zec]
    ·exact ztd1 x pre k T H
   ·exact ztd1 x pre k T H
  ·exact ztd1 x pre k T H
 ·exact ztd1 x pre k T H
theorem zkl (x:Ent) (pre:List Ent) (k:K2) (T:Tr AV) (H:AH) (hl:zia L x.2.2=false):runK L rec kk (nodeD L x pre k) T H=zfc L rec kk x.2.2 k T H:=by
 unfold nodeD;cases zih L x pre with
 |false=>exact zuk _ _ _ T H hl
 |true =>
  simp only;cases hs:zwk x.2.2.op with
  |true=>rw [zdw hs] at hl;cases hl
  |false =>
   cases hc:zsf x.2.2 with
   |true=>rw [zry hc] at hl;cases hl
   |false=>exact zuk _ _ _ T H hl
theorem zll (x:Ent) (pre:List Ent) (k:K2) (T:Tr AV) (H:AH) (hl:zia L x.2.2=true):runK L rec kk (nodeD L x pre k) T H=(match zih L x pre with
     |false=>(match zva L rec T x.2.2 H with
      |some r=>runK L rec kk k (putT T x.2.2.dst r.1) r.2
      |none=>none)
     |true=>match far L T x pre with
      |true=>(match zva L rec T x.2.2 H with
       |some r=>runK L rec kk k (putT T x.2.2.dst r.1) r.2
       |none=>none)
      |false=>(match zid L rec T x pre H with
       |some r=>runK L rec kk k (putT T x.2.2.dst r.1) r.2
       |none=>none)):=by
 unfold nodeD;cases zih L x pre with
 |false=>exact zvk _ _ _ T H hl
 |true =>
  simp only;cases hs:zwk x.2.2.op || zsf x.2.2 with
  |false =>
   obtain ⟨hs,hc⟩:=Bool.or_eq_false_iff.mp hs;rw [zss hs];refine (zvk _ _ _ T H hl).trans ?_;unfold zmc zid;rw [hc];show _=match (match zva L rec T x.2.2 (hIn true H) with|some r=>some (r.1,hOut true H r.2)|none=>none) with|some r=>runK L rec kk k (putT T x.2.2.dst r.1) r.2|none=>none
   cases zva L rec T x.2.2 (hIn true H)<;>rfl
  |true=>exact zud1 x pre k T H
theorem zbr (all:List Oper) (pl:List Ent):∀(pre:List Ent) (T:Tr AV) (H:AH),runK L rec kk (znn L all pl pre) T H=(match zak L rec all pl pre T H with|some r=>kk r.1 r.2|none=>none):=by
 induction pl with
 |nil=>intro pre T H;rfl
 |cons x pl ih =>
  intro pre T H;show runK L rec kk (compG all x.2.2 (nodeD L x pre (znn L all pl (x::pre))) (match loose L x pre with|true=>.fail|false=>znn L all pl (x::pre))) T H=match (match zac all T x.2.2 with
   |false=>(match loose L x pre with
    |true=>none
    |false=>zak L rec all pl (x::pre) (putT T x.2.2.dst .undef) H)
   |true=>match zia L x.2.2 with
    |false=>(match zva L rec T x.2.2 H with
     |some r=>zak L rec all pl (x::pre) (putT T x.2.2.dst r.1) H
     |none=>none)
    |true=>match zih L x pre with
     |false=>(match zva L rec T x.2.2 H with
      |some r=>zak L rec all pl (x::pre) (putT T x.2.2.dst r.1) r.2
      |none=>none)
     |true=>match far L T x pre with
      |true=>(match zva L rec T x.2.2 H with
       |some r=>zak L rec all pl (x::pre) (putT T x.2.2.dst r.1) r.2
       |none=>none)
      |false=>(match zid L rec T x pre H with
       |some r=>zak L rec all pl (x::pre) (putT T x.2.2.dst r.1) r.2
       |none=>none)) with|some r=>kk r.1 r.2|none=>none
  rw [zrs];cases zac all T x.2.2 with
  |false =>
   simp only;cases loose L x pre with
   |true=>rfl
   |false=>exact ih _ _ _
  |true =>
   simp only;cases hl:zia L x.2.2 with
   |false =>
    rw [zkl _ _ _ T H hl];unfold zfc;cases he:zva L rec T x.2.2 H with
    |none=>rfl
    |some r=>simp only;rw [ih]
   |true =>
    rw [zll _ _ _ T H hl];cases zih L x pre with
    |false =>
     simp only;cases he:zva L rec T x.2.2 H with
     |none=>rfl
     |some r=>simp only;rw [ih]
    |true =>
     simp only;cases far L T x pre with
     |true =>
      simp only;cases he:zva L rec T x.2.2 H with
      |none=>rfl
      |some r=>simp only;rw [ih]
     |false =>
      simp only;cases he:zid L rec T x pre H with
      |none=>rfl
      |some r=>simp only;rw [ih]
theorem zew (ops:List Oper) (draw:Bool) (T:Tr AV) (H:AH):runK L rec kk (zqs L ops draw) T H=(match zbf L rec ops draw T H with|some r=>kk r.1 r.2|none=>none):=by
 unfold zqs zbf;cases draw with
 |false=>exact zcw ops ops T H
 |true =>
  simp only;cases plan L ops with
  |none=>rfl
  |some pl=>exact zbr ops pl [] T H
end
inductive C2 where
 |skip
 |reg (k:K2)
 |seq (a b:C2)
 |cond (x:O2) (a b:C2)
 |block (id:Nat) (a:C2)
 |loop (body:Code)
 |rng (f:O2) (ps:List Tmp) (assign body:Code)
 |exit (id:Nat)
 |scope (a:C2)
 |goto (l:Nat)
 |ret
 |bad
def comp (L:Lk) (c:Code):C2 :=
 crec (β:=C2) .skip (fun _ ops draw=>.reg (zqs L ops.toList draw)) (fun _ _ a b=>.seq a b)
  (fun x _ _ a b=>orec .bad (fun x=>.cond x a b) (opd x)) (fun id _ a=>.block id a) (fun body _=>.loop body)
  (fun f ps assign body _ _=>orec .bad (fun x=>.rng x ps.toList assign body) (opd f)) (fun id=>.exit id) (fun _ a=>.scope a) (fun _=>.skip) (fun l=>.goto l) .ret (fun _=>.bad) c
def exRec {β:Type}(n:β) (x:Nat->β) (r:β) (g:Nat->β) (e:Ex):β:=Ex.rec (motive:=fun _=>β) n x r g e
def zfw {β:Type}(f:Ex->Tr AV->AH->β) (o:Out):β:=Out.rec (motive:=fun _=>β) (fun e T H=>f e T H) o
abbrev Kont:=Ex->Tr AV->AH->Option Out
def exSeq (n:Option Out) (K:Kont) (T:Tr AV) (H:AH) (e:Ex):Option Out:=Ex.rec (motive:=fun _=>Option Out->Kont->Tr AV->AH->Option Out) (fun n _ _ _=>n) (fun id _ K T H=>K (.exit id) T H) (fun _ K T H=>K .ret T H) (fun l _ K T H=>K (.goto l) T H) e n K T H
def exBlk (id:Nat) (K:Kont) (T:Tr AV) (H:AH) (e:Ex):Option Out:=Ex.rec (motive:=fun _=>Nat->Kont->Tr AV->AH->Option Out) (fun _ K T H=>K .normal T H) (fun i id K T H=>brec (K (.exit i) T H) (K .normal T H) (Nat.beq i id)) (fun _ K T H=>K .ret T H) (fun l _ K T H=>K (.goto l) T H) e id K T H
abbrev RunC:=Lk->Rec->Kont->Tr AV->AH->Option Out
def evC' (c:C2):RunC :=
 C2.rec (motive:=fun _=>RunC)
  (fun _ _ K T H=>K .normal T H)
  (fun k L rec K T H=>runK' k L rec (K .normal) T H)
  (fun _ _ iha ihb L rec K T H=>iha L rec (fun ex T H=>exSeq (ihb L rec K T H) K T H ex) T H)
  (fun x _ _ iha ihb L rec K T H=>zxl none (fun b=>brec (ihb L rec K T H) (iha L rec K T H) b) (x.ev T))
  (fun id _ ih L rec K T H=>ih L rec (fun ex T H=>exBlk id K T H ex) T H)
  (fun body _ rec K T H=>orec none (fun o=>zfw K o) (rec (.loop body T H)))
  (fun f ps assign body _ rec K T H=>orec none (fun o=>zfw K o) (rec (.range (f.ev T) ps assign body T H)))
  (fun id _ _ K T H=>K (.exit id) T H)
  (fun _ ih L rec K T H=>ih L rec (fun ex T H=>exRec (K .normal T H) (fun i=>K (.exit i) T H) (K .ret T H) (fun _=>none) ex) T H)
  (fun l _ _ K T H=>K (.goto l) T H)
  (fun _ _ K T H=>K .ret T H)
  (fun _ _ _ _ _=>none) c
def evC (L:Lk) (rec:Rec) (c:C2) (K:Kont) (T:Tr AV) (H:AH):Option Out:=evC' c L rec K T H
theorem zcr (L:Lk) (rec:Rec) (c:Code):∀(K:Kont) (T:Tr AV) (H:AH),evC L rec (comp L c) K T H=(match zzb L rec c T H with|some o=>K o.ex o.T o.H|none=>none):=by
 induction c with
 |skip=>intro K T H;rfl
 |region i ops d =>
  intro K T H;show runK L rec (fun T H=>K .normal T H) (zqs L ops.toList d) T H=match (match zbf L rec ops.toList d T H with|some r=>some (⟨.normal,r.1,r.2⟩:Out)|none=>none) with|some o=>K o.ex o.T o.H|none=>none
  rw [zew];cases zbf L rec ops.toList d T H<;>rfl
 |seq a b iha ihb =>
  intro K T H;show evC L rec (comp L a) (fun ex T H=>exSeq (evC L rec (comp L b) K T H) K T H ex) T H=match (match zzb L rec a T H with
   |some o=>(match o.ex with| .normal=>zzb L rec b o.T o.H|_=>some o)
   |none=>none) with|some o=>K o.ex o.T o.H|none=>none
  rw [iha];cases zzb L rec a T H with
  |none=>rfl
  |some o =>
   obtain ⟨ex,T1,H1⟩:=o;cases ex with
   |normal=>exact ihb K T1 H1
   |_=>rfl
 |cond x a b iha ihb =>
  intro K T H;show evC L rec (orec C2.bad (fun x=>.cond x (comp L a) (comp L b)) (opd x)) K T H=match (match opnd T x with
   |some (.bool true)=>zzb L rec a T H
   |some (.bool false)=>zzb L rec b T H
   |_=>none) with|some o=>K o.ex o.T o.H|none=>none
  rw [zna];cases opd x with
  |none=>rfl
  |some y =>
   show zxl none (fun c=>brec (evC L rec (comp L b) K T H) (evC L rec (comp L a) K T H) c) (y.ev T)=_
   simp only;cases y.ev T<;>first
    |rfl
    |(next c=>cases c<;>first|exact iha K T H|exact ihb K T H)
 |block id a ih =>
  intro K T H;show evC L rec (comp L a) (fun ex T H=>exBlk id K T H ex) T H=match (match zzb L rec a T H with
   |some o=>(match o.ex with
    | .exit i=>(match Nat.beq i id with|true=>some (⟨.normal,o.T,o.H⟩:Out)|false=>some o)
    |_=>some o)
   |none=>none) with|some o=>K o.ex o.T o.H|none=>none
  rw [ih];cases zzb L rec a T H with
  |none=>rfl
  |some o =>
   obtain ⟨ex,T1,H1⟩:=o;cases ex with
   |exit i =>
    show brec (K (.exit i) T1 H1) (K .normal T1 H1) (Nat.beq i id)=_
    simp only;cases Nat.beq i id<;>rfl
   |_=>rfl
 |loop body ih =>
  intro K T H;show orec none (fun o=>zfw K o) (rec (.loop body T H))=match rec (.loop body T H) with|some o=>K o.ex o.T o.H|none=>none
  cases rec (.loop body T H)<;>rfl
 |rangeFunc f ps assign body _ _ =>
  intro K T H;show evC L rec (orec C2.bad (fun x=>.rng x ps.toList assign body) (opd f)) K T H=match (match opnd T f with|some g=>rec (.range g ps.toList assign body T H)|none=>none) with|some o=>K o.ex o.T o.H|none=>none
  rw [zna];cases opd f with
  |none=>rfl
  |some y =>
   show orec none (fun o=>zfw K o) (rec (.range (y.ev T) ps.toList assign body T H))=_
   simp only;cases rec (.range (y.ev T) ps.toList assign body T H)<;>rfl
 |exit id=>intro K T H;rfl
 |scope a ih =>
  intro K T H;show evC L rec (comp L a) (fun ex T H=>exRec (K .normal T H) (fun i=>K (.exit i) T H) (K .ret T H) (fun _=>none) ex) T H=match (match zzb L rec a T H with
   |some o=>(match o.ex with| .goto _=>none|_=>some o)
   |none=>none) with|some o=>K o.ex o.T o.H|none=>none
  rw [ih];cases zzb L rec a T H with
  |none=>rfl
  |some o =>
   obtain ⟨ex,T1,H1⟩:=o;cases ex<;>rfl
 |label l=>intro K T H;rfl
 |goto l=>intro K T H;rfl
 |ret=>intro K T H;rfl
 |refuse w=>intro K T H;rfl
structure F2 where
 nt:Nat
 code:C2
 res:List ResultVar
def fnF (L:Lk) (f:FuncId):Option F2 :=
 match L.func f with
 |none=>none
 |some fn=>match fn.body with
  |none=>none
  |some c=>some ⟨fn.ntmps,comp L c,fn.results.toList⟩
def runC (L:Lk) (rec:Rec) (c:Code) (T:Tr AV) (H:AH):Option Out:=evC L rec (comp L c) (fun ex T H=>some ⟨ex,T,H⟩) T H
theorem zeh1 (L:Lk) (rec:Rec) (c:Code) (T:Tr AV) (H:AH):runC L rec c T H=zzb L rec c T H:=by
 unfold runC;rw [zcr];cases zzb L rec c T H<;>rfl
def fin2 (L:Lk) (res:List ResultVar) (T:Tr AV) (H:AH):Option Out :=
 match zmb L T H res with
 |some vs=>(match vs with| [v]=>some (out1 v H)|vs=>some (out1 (.tup vs) H))
 |none=>none
def callF (L:Lk) (rec:Rec) (f:FuncId) (args:List AV) (H:AH):Option Out :=
 orec none (fun F=>F2.rec (motive:=fun _=>Option Out) (fun nt code res =>
  brec none (evC L rec code (fun ex T H=>exRec (fin2 L res T H) (fun _=>none) (fin2 L res T H) (fun _=>none) ex) (zub args 0 .nil) H) (Nat.ble (len args) nt)) F) (fnF L f)
def bodyS (L:Lk) (rec:Rec) (f:FuncId) (args:List AV) (H:AH):Option Out:=brec (callF L rec f args H) none (L.dfn f)
def extS (L:Lk) (f:FuncId) (args:List AV) (H:AH):Option (AV×AH):=orec none (fun g=>g args H) (L.ext f)
def callS (L:Lk) (rec:Rec) (f:FuncId) (args:List AV) (H:AH):Option Out:=orec (bodyS L rec f args H) (fun p=>some (out1 p.1 p.2)) (extS L f args H)
def zvd1 (rec:Rec) (body:Code) (ex:Ex) (T:Tr AV) (H:AH):Option Out :=
 Ex.rec (motive:=fun _=>Rec->Code->Tr AV->AH->Option Out) (fun rec body T H=>rec (.loop body T H)) (fun id _ _ T H=>some ⟨.exit id,T,H⟩) (fun _ _ T H=>some ⟨.ret,T,H⟩) (fun l _ _ T H=>some ⟨.goto l,T,H⟩) ex rec body T H
def loopS (L:Lk) (rec:Rec) (body:Code) (T:Tr AV) (H:AH):Option Out:=evC' (comp L body) L rec (zvd1 rec body) T H
def zsy (L:Lk) (rec:Rec) (l:Nat) (args:List AV) (H:AH):Option Out:=(match Nat.ble H.lo l,H.get l with
  |true,some (.loop .ready none T n ps assign body)=>(match Nat.beq (len args) (len ps) with
   |false=>none
   |true=>match runC L rec assign (zjc (ps.zip args) T) H with
    |none=>none
    |some o1=>match o1.ex with
     | .normal=>(match o1.H.get l with
      |some (.loop .ready none T2 n2 ps2 as2 bd2)=>(match runC L rec body o1.T (o1.H.put l (.loop .busy none T2 n2 ps2 as2 bd2)) with
       |none=>none
       |some o2=>match o2.H.get l with
        |some (.loop .busy _ T n ps assign body)=>(match o2.ex with
         | .normal=>some (out1 (.bool true) (o2.H.put l (.loop .ready none T n ps assign body)))
         | .exit id=>some (out1 (.bool false) (o2.H.put l (.loop .done (some (.exit id)) T n ps assign body)))
         | .ret=>some (out1 (.bool false) (o2.H.put l (.loop .done (some .ret) T n ps assign body)))
         | .goto _=>none)
        |_=>none)
      |_=>none)
     |_=>none)
  |_,_=>none)
def zsl1 (L:Lk) (rec:Rec) (g:AV) (ps:List Tmp) (assign body:Code) (T:Tr AV) (H:AH):Option Out :=
  (match zdc g [.yld H.next] with
  |some (.enter f args)=>(match L.func f with
   |none=>none
   |some fn=>match fn.body with
    |none=>none
    |some _=>match rec (.call f args (H.new (.loop .ready none T 0 ps assign body))) with
     |none=>none
     |some o=>match Nat.ble o.H.lo H.next,o.H.get H.next with
      |true,some (.loop st pend _ _ _ _ _)=>(match st with
       | .busy=>none
       |_=>match pend with
        |none=>some ⟨.normal,T,o.H.put H.next .defd⟩
        |some (.exit id)=>some ⟨.exit id,T,o.H.put H.next .defd⟩
        |some .ret=>some ⟨.ret,T,o.H.put H.next .defd⟩
        |_=>none)
      |_,_=>none)
  |_=>none)
def stepF (L:Lk) (rec:Rec) (r:Req):Option Out :=
 Req.rec (motive:=fun _=>Lk->Rec->Option Out) (fun f args H L rec=>callS L rec f args H) (fun body T H L rec=>loopS L rec body T H) (fun l args H L rec=>zsy L rec l args H)
  (fun g ps assign body T H L rec=>zsl1 L rec g ps assign body T H) r L rec
def evF (L:Lk) (fuel:Nat):Rec:=nrecF (α:=Req) (β:=Option Out) (fun _=>none) (fun _ rec r=>stepF L rec r) fuel
theorem ztl1 (L:Lk) (rec:Rec) (f:FuncId) (args:List AV) (H:AH):callF L rec f args H=(match L.func f with
     |none=>none
     |some fn=>match fn.body with
      |none=>none
      |some c=>match Nat.ble (len args) fn.ntmps with
       |false=>none
       |true=>match zzb L rec c (zub args 0 .nil) H with
        |none=>none
        |some o=>match o.ex with
         | .ret| .normal=>(match zmb L o.T o.H fn.results.toList with
          |some vs=>(match vs with| [v]=>some (out1 v o.H)|vs=>some (out1 (.tup vs) o.H))
          |none=>none)
         |_=>none):=by
 unfold callF fnF;cases L.func f with
 |none=>rfl
 |some fn =>
  simp only;cases fn.body with
  |none=>rfl
  |some c =>
   show brec none (evC L rec (comp L c) (fun ex T H=>exRec (fin2 L fn.results.toList T H) (fun _=>none) (fin2 L fn.results.toList T H) (fun _=>none) ex) (zub args 0 .nil) H) (Nat.ble (len args) fn.ntmps)=_
   simp only;cases Nat.ble (len args) fn.ntmps with
   |false=>rfl
   |true =>
    simp only [zpm];rw [zcr];cases zzb L rec c (zub args 0 .nil) H with
    |none=>rfl
    |some o =>
     obtain ⟨ex,T1,H1⟩:=o;cases ex<;>rfl
theorem zul1 (L:Lk) (n:Nat):evF L n=evReq L n:=by
 induction n with
 |zero=>rfl
 |succ n ih =>
  funext r
  show stepF L (evF L n) r=evReq L (n+1) r
  rw [ih];cases r with
  |call f args H =>
   have he:extS L f args H=zcq L f args H:=by unfold extS zcq;cases L.ext f<;>rfl
   show orec (bodyS L (evReq L n) f args H) (fun p=>some (out1 p.1 p.2)) (extS L f args H)=(match zcq L f args H with
    |some p=>some (out1 p.1 p.2)
    |none=>match L.dfn f with
    |true=>none
    |false=>match L.func f with
     |none=>none
     |some fn=>match fn.body with
      |none=>none
      |some c=>match Nat.ble (len args) fn.ntmps with
       |false=>none
       |true=>match zzb L (evReq L n) c (zub args 0 .nil) H with
        |none=>none
        |some o=>match o.ex with
         | .ret| .normal=>(match zmb L o.T o.H fn.results.toList with
          |some vs=>(match vs with| [v]=>some (out1 v o.H)|vs=>some (out1 (.tup vs) o.H))
          |none=>none)
         |_=>none)
   rw [he];cases zcq L f args H with
   |some p=>rfl
   |none =>
    show bodyS L (evReq L n) f args H=_
    unfold bodyS;cases L.dfn f with
    |true=>rfl
    |false=>exact ztl1 L _ f args H
  |loop body T H =>
   show evC L (evReq L n) (comp L body) (zvd1 (evReq L n) body) T H=evReq L (n+1) (.loop body T H)
   rw [zcr];show _=(match zzb L (evReq L n) body T H with
    |none=>none
    |some o=>match o.ex with
     | .normal=>evReq L n (.loop body o.T o.H)
     |_=>some o)
   cases zzb L (evReq L n) body T H with
   |none=>rfl
   |some o=>obtain ⟨ex,T1,H1⟩:=o;cases ex<;>rfl
  |round l args H =>
   show zsy L (evReq L n) l args H=_
   simp only [zsy,zeh1];rfl
  |range g ps assign body T H=>rfl
end
open Go.RowKit
abbrev XFn:=List AV->AH->Option (AV×AH)
def XOk (P:Program) (B:Nat) (f:FuncId) (g:XFn):Prop :=
 ∀args H p,g args H=some p-> ∀E w us,H.Wf->St B E H w->StL E H.next args us->CallOk P B E H w f us p.1 p.2
def xLook (tab:List (Nat×XFn)) (f:Nat):Option XFn:=lrec (β:=Option XFn) none (fun p _ ih=>brec ih (some p.2) (Nat.beq p.1 f)) tab
theorem zwd1 {tab:List (Nat×XFn)}{f:Nat}{g:XFn}(h:xLook tab f=some g):(f,g)∈tab:=by
 induction tab with
 |nil=>cases h
 |cons p tab ih =>
  have h:brec (xLook tab f) (some p.2) (Nat.beq p.1 f)=some g:=h;cases hb:Nat.beq p.1 f with
  |true =>
   rw [hb] at h;cases h;have:=qi hb;subst this;exact qt1
  |false=>rw [hb] at h;exact qh1 _ (ih h)
def zLook (tab:List (Nat×Nat)) (t:Nat):Option AV:=lrec (β:=Option AV) none (fun p _ ih=>brec ih (some (.bag p.2 0)) (Nat.beq p.1 t)) tab
theorem zxd1 {tab:List (Nat×Nat)}{t:Nat}{z:AV}(h:zLook tab t=some z):∃n,(t,n)∈tab/\z= .bag n 0:=by
 induction tab with
 |nil=>cases h
 |cons p tab ih =>
  have h:brec (zLook tab t) (some (.bag p.2 0)) (Nat.beq p.1 t)=some z:=h;cases hb:Nat.beq p.1 t with
  |true =>
   rw [hb] at h;cases h;have:=qi hb;subst this;exact ⟨_,qt1,rfl⟩
  |false =>
   rw [hb] at h;obtain ⟨n,h1,h2⟩:=ih h;exact ⟨n,qh1 _ h1,h2⟩
def zFit (v:Value) (n:Nat):Bool:=match ofValue v with|some (.agg l)=>(match Ce.pack l with|some m=>Nat.beq m 0 && Nat.beq (len l) n|none=>false)|_=>false
theorem zFit_ok {v:Value}{n:Nat}(h:zFit v n=true) (E:Env):conc E (.bag n 0)=v:=by
 unfold zFit at h;split at h
 ·next l hl =>
  split at h
  ·next m hm =>
   rw [qm] at h;have h1:=qi h.1;have h2:=qi h.2;subst h1;have:(Ce.of l).l=l:=Ce.of_l l;unfold Ce.of at this;rw [hm,h2] at this;have h3:bytesL n 0=l:=this;rw [zdg,h3,← zeg hl];rfl
  ·cases h
 ·cases h
def zFits (ts:List TypeInfo) (p:Nat×Nat):Bool:=match ts[p.1]? with|some i=>(match i.zero with|some v=>zFit v p.2|none=>false)|none=>false
def lkZ (P:Program) (fs:Tr Func) (ts:Tr TypeInfo) (tab:List (Nat×XFn)) (zl:List (Nat×Nat)):Lk :=
 {func:=fun f=>fs.get f,info:=fun t=>ts.get t,plainEq:=fun t=> !P.stoodInHeld t && !P.eqGuardType P.depth t,ext:=fun f=>xLook tab f,zt:=fun t=>zLook zl t}
theorem zvl1 {P:Program}{tab:List (Nat×XFn)}{zl:List (Nat×Nat)}(hm:P.follows .mixedOrders=true) (hf:P.funcs.toList.all fitFn=true) (hz:zl.all (zFits P.types.toList)=true):LOk (lkZ P (Tr.ofList P.funcs.toList) (Tr.ofList P.types.toList) tab zl) P :=
 let h:=lkOf_ok hm hf
 ⟨⟨h.info,h.plainEq,fun t z ht=>by
  obtain ⟨n,h1,rfl⟩:=zxd1 ht;have h2:=qb1.1 hz _ h1;unfold zFits at h2;split at h2
  ·next i hi =>
   split at h2
   ·next v hv=>exact ⟨i,v,by show (Tr.ofList P.types.toList).get t=some i;rw [Tr.get_ofList];exact hi,hv,zFit_ok h2⟩
   ·cases h2
  ·cases h2⟩,h.func,h.mixed⟩
theorem zon {P:Program}{fs:Tr Func}{ts:Tr TypeInfo}{tab:List (Nat×XFn)}{zl:List (Nat×Nat)}{B:Nat}(h:∀p∈tab,XOk P B p.1 p.2):ExtOk (lkZ P fs ts tab zl) P B :=
 fun f g hg=>h (f,g) (zwd1 hg)
structure Bare (P:Program) (f:FuncId) (e:Array Value->Sem Value):Prop where
 ok : ∃ fn, P.funcs[f]? = some fn ∧ (fn.name == "runtime.NumGoroutine") = false ∧ fn.body.isNone = true ∧ Extern.findNext fn = none ∧ Extern.find fn = some e
theorem Bare.run {P:Program}{f:FuncId}{e:Array Value->Sem Value}(h:Bare P f e){us:Array Value}{w w1:World}{u:Value}(he:(e us).run P w= .ok u w1):(callFunc f us).run P w= .ok (.value u) w1:=by
 obtain ⟨fn,h1,h2,h3,h4,h5⟩:=h.ok;unfold callFunc;simp only [qk,program,Sem.run,qd,h1,h2,h3,h4,h5,qj1,qq3,qc5];rw [show (Go.mark (Mark.extern f)).run P w= .ok () w from rfl]
 simp only [qd,he];rfl
def zwh:XFn:=fun args H=>match args with
 | [.str s,.int .u8 c]=>some (.int .i64 (match (List.range s.size).find? fun i=>s[i]! == c.toNat.toUInt8 with|some i=>(i:Int)|none=> -1),H)
 |_=>none
def zpn:XFn:=fun args H=>match args with
 | [.str a,.str b]=>some (.int .i64 (Extern.BytealgCompare.cmp a b),H)
 |_=>none
theorem zmp {P:Program}{B:Nat}{f:FuncId}(hf:Bare P f Extern.BytealgIndexByte.indexByte):XOk P B f zwh:=by
 intro args H p hp E w us hw hS hus;unfold zwh at hp;split at hp
 ·next s c =>
  cases hp
  have hu:=hus E (Agree.refl _ _);subst hu;unfold CallOk;have:(callFunc f (concL E [.str s,.int .u8 c]).toArray).run P w= .ok (.value (.int .i64 (match (List.range s.size).find? fun i=>s[i]! == c.toNat.toUInt8 with|some i=>(i:Int)|none=> -1))) w:=by
   refine hf.run ?_;have hi:Extern.BytealgIndexByte.indexByte #[Value.string s,Value.int .u8 c]=(do
     let b ← Extern.Bytes.bytesOf (.string s)
     let c ← Extern.Bytes.asByte (.int .u8 c)
     match (List.range b.size).find? fun i=>b[i]! == c with
     |some i=>pure (goInt i)
     |none=>pure (goInt (-1))):=rfl
   show (Extern.BytealgIndexByte.indexByte #[Value.string s,Value.int .u8 c]).run P w=_
   rw [hi];simp only [Extern.Bytes.bytesOf,Extern.Bytes.asByte,qk,qt,qd];split<;>rfl
  rw [this];exact Done.same hw hS (fun _ _=>rfl)
 ·cases hp
theorem zgw {P:Program}{B:Nat}{f:FuncId}(hf:Bare P f Extern.BytealgCompare.compare):XOk P B f zpn:=by
 intro args H p hp E w us hw hS hus;unfold zpn at hp;split at hp
 ·next a b =>
  cases hp
  have hu:=hus E (Agree.refl _ _);subst hu;unfold CallOk;have:(callFunc f (concL E [.str a,.str b]).toArray).run P w= .ok (.value (.int .i64 (Extern.BytealgCompare.cmp a b))) w:=by
   refine hf.run ?_;have hi:Extern.BytealgCompare.compare #[Value.string a,Value.string b]=(do pure (goInt (Extern.BytealgCompare.cmp (← Extern.Bytes.bytesOf (.string a)) (← Extern.Bytes.bytesOf (.string b))))):=rfl
   show (Extern.BytealgCompare.compare #[Value.string a,Value.string b]).run P w=_
   rw [hi];simp only [Extern.Bytes.bytesOf,qk,qt,qd];rfl
  rw [this];exact Done.same hw hS (fun _ _=>rfl)
 ·cases hp
def tO (k:Nat):O2:=brec (.hi k) (.lo (dg (Nat.div k 8)) (dg (Nat.mod k 8))) (Nat.blt k 64)
def gT (T:Tr AV) (k:Nat):AV:=dflt (T.get k)
theorem ev_tO (k:Nat) (T:Tr AV):(tO k).ev T=gT T k:=by
 have:=zna T (.tmp k);have h2:opnd T (.tmp k)=some (gT T k):=by
  show (match T.get k with|some v=>some v|none=>some AV.undef)=some (dflt (T.get k))
  cases T.get k<;>rfl
 rw [h2] at this;exact (qr3 this).symm
theorem zyd1 (v:AV) (T:Tr AV):(O2.con v).ev T=v:=rfl
theorem zhw (T:Tr AV) (j:Nat) (v:AV) (k:Nat):gT (T.set j v) k=if k=j then v else gT T k:=by
 unfold gT;rw [Tr.get_set];split<;>rfl
theorem zwl1 (T:Tr AV) (j:Nat) (v:AV) (k:Nat):gT (putS (some (sOf j)) v T) k=if k=j then v else gT T k:=by
 show gT ((sOf j).set v T) k=_
 rw [zny,zhw]
theorem zfh1 (T:Tr AV) (v:AV) (k:Nat):gT (putS none v T) k=gT T k:=rfl
theorem zzd1 (k:Nat):gT .nil k= .undef:=by
 unfold gT;rw [Tr.get_nil];rfl
theorem zae1 (j:Nat) (T:Tr AV):zub [] j T=T:=rfl
theorem zgh1 (v:AV) (l:List AV) (j:Nat) (T:Tr AV):zub (v::l) j T=zub l (j+1) (T.set j v):=rfl
theorem zts (T:Tr AV):evs [] T= []:=rfl
theorem zqn (x:O2) (xs:List O2) (T:Tr AV):evs (x::xs) T=x.ev T::evs xs T:=rfl
theorem zus (a:AV) (l:List AV):hd (a::l)=a:=rfl
theorem zvs (a:AV) (l:List AV):tl (a::l)=l:=rfl
inductive Kf where
 |seq (b:C2)
 |blk (id:Nat)
 |scp
def kOf (L:Lk) (rec:Rec):List Kf->Kont
 | []=>fun ex T H=>some ⟨ex,T,H⟩
 | .seq b::s=>fun ex T H=>exSeq (evC' b L rec (kOf L rec s) T H) (kOf L rec s) T H ex
 | .blk id::s=>fun ex T H=>exBlk id (kOf L rec s) T H ex
 | .scp::s=>fun ex T H=>exRec (kOf L rec s .normal T H) (fun i=>kOf L rec s (.exit i) T H) (kOf L rec s .ret T H) (fun _=>none) ex
abbrev PostC:=Ex->Tr AV->AH->Prop
def Comes (Q:PostC) (F:Rec->Option Out) (L:Lk):Prop:= ∃o:Out,Q o.ex o.T o.H/\ ∃n,∀m,n<=m->F (evF L m)=some o
structure RC (L:Lk) (c:C2) (s:List Kf) (T:Tr AV) (H:AH) (Q:PostC):Prop where
 h:Comes Q (fun rec=>evC' c L rec (kOf L rec s) T H) L
structure RK (L:Lk) (k:K2) (s:List Kf) (T:Tr AV) (H:AH) (Q:PostC):Prop where
 h:Comes Q (fun rec=>runK' k L rec (kOf L rec s .normal) T H) L
structure RN (L:Lk) (s:List Kf) (ex:Ex) (T:Tr AV) (H:AH) (Q:PostC):Prop where
 h:Comes Q (fun rec=>kOf L rec s ex T H) L
structure FnE (L:Lk) (f:FuncId) (args:List AV) (H:AH) (R:AV->AH->Prop):Prop where
 h:∃v H',R v H'/\ ∃n,∀m,n<=m->evF L m (.call f args H)=some (out1 v H')
structure LpE (L:Lk) (body:Code) (T:Tr AV) (H:AH) (R:PostC):Prop where
 h:Comes R (fun rec=>rec (.loop body T H)) L
section
variable {L:Lk}{s:List Kf}{T:Tr AV}{H:AH}{Q:PostC}{k:K2}{d:Option S2}
theorem Comes.mono {Q Q':PostC}{F:Rec->Option Out}(h:Comes Q F L) (hq:∀ex T H,Q ex T H->Q' ex T H):Comes Q' F L:=by
 obtain ⟨o,h1,h2⟩:=h;exact ⟨o,hq _ _ _ h1,h2⟩
theorem FnE.mono {f:FuncId}{args:List AV}{R R':AV->AH->Prop}(h:FnE L f args H R) (hq:∀v H,R v H->R' v H):FnE L f args H R':=by
 obtain ⟨v,H',h1,h2⟩:=h.h;exact ⟨v,H',hq _ _ h1,h2⟩
theorem zxl1 {ex:Ex}(h:Q ex T H):RN L [] ex T H Q:=⟨⟨ex,T,H⟩,h,0,fun _ _=>rfl⟩
theorem rn_seq_n {b:C2}(h:RC L b s T H Q):RN L (.seq b::s) .normal T H Q:=⟨h.h⟩
theorem rn_seq_e {b:C2}{id:Nat}(h:RN L s (.exit id) T H Q):RN L (.seq b::s) (.exit id) T H Q:=⟨h.h⟩
theorem rn_seq_r {b:C2}(h:RN L s .ret T H Q):RN L (.seq b::s) .ret T H Q:=⟨h.h⟩
theorem rn_blk_n {id:Nat}(h:RN L s .normal T H Q):RN L (.blk id::s) .normal T H Q:=⟨h.h⟩
theorem rn_blk_r {id:Nat}(h:RN L s .ret T H Q):RN L (.blk id::s) .ret T H Q:=⟨h.h⟩
theorem rn_blk_e {id:Nat}(h:RN L s .normal T H Q):RN L (.blk id::s) (.exit id) T H Q:=by
 refine ⟨?_⟩;show Comes Q (fun rec=>brec (kOf L rec s (.exit id) T H) (kOf L rec s .normal T H) (Nat.beq id id)) L
 rw [show Nat.beq id id=true from qr2 id]
 exact h.h
theorem zgg {id j:Nat}(hj:Nat.beq j id=false) (h:RN L s (.exit j) T H Q):RN L (.blk id::s) (.exit j) T H Q:=by
 refine ⟨?_⟩;show Comes Q (fun rec=>brec (kOf L rec s (.exit j) T H) (kOf L rec s .normal T H) (Nat.beq j id)) L
 rw [hj];exact h.h
theorem rn_scp_n (h:RN L s .normal T H Q):RN L (.scp::s) .normal T H Q:=⟨h.h⟩
theorem rn_scp_e {id:Nat}(h:RN L s (.exit id) T H Q):RN L (.scp::s) (.exit id) T H Q:=⟨h.h⟩
theorem rn_scp_r (h:RN L s .ret T H Q):RN L (.scp::s) .ret T H Q:=⟨h.h⟩
theorem rc_skip (h:RN L s .normal T H Q):RC L .skip s T H Q:=⟨h.h⟩
theorem rc_reg (h:RK L k s T H Q):RC L (.reg k) s T H Q:=⟨h.h⟩
theorem rc_seq {a b:C2}(h:RC L a (.seq b::s) T H Q):RC L (.seq a b) s T H Q:=⟨h.h⟩
theorem rc_blk {id:Nat}{a:C2}(h:RC L a (.blk id::s) T H Q):RC L (.block id a) s T H Q:=⟨h.h⟩
theorem rc_scp {a:C2}(h:RC L a (.scp::s) T H Q):RC L (.scope a) s T H Q:=⟨h.h⟩
theorem rc_exit {id:Nat}(h:RN L s (.exit id) T H Q):RC L (.exit id) s T H Q:=⟨h.h⟩
theorem rc_ret (h:RN L s .ret T H Q):RC L .ret s T H Q:=⟨h.h⟩
theorem rc_cond {x:O2}{a b:C2}{c:Bool}(hx:x.ev T= .bool c) (ha:c=true->RC L a s T H Q) (hb:c=false->RC L b s T H Q):RC L (.cond x a b) s T H Q:=by
 refine ⟨?_⟩;show Comes Q (fun rec=>zxl none (fun y=>brec (evC' b L rec (kOf L rec s) T H) (evC' a L rec (kOf L rec s) T H) y) (x.ev T)) L
 rw [hx];cases c with
 |true=>exact (ha rfl).h
 |false=>exact (hb rfl).h
theorem rc_loop {body:Code}{R:PostC}(h:LpE L body T H R) (hk:∀ex T' H',R ex T' H'->RN L s ex T' H' Q):RC L (.loop body) s T H Q:=by
 obtain ⟨o,hR,n,hn⟩:=h.h;obtain ⟨o2,hQ,n2,h2⟩:=(hk _ _ _ hR).h;refine ⟨o2,hQ,max n n2,fun m hm=> ?_⟩
 show orec none (fun o=>zfw (kOf L (evF L m) s) o) (evF L m (.loop body T H))=some o2
 have hn:evF L m (.loop body T H)=some o:=hn m oM
 rw [hn];exact h2 m oM
theorem rk_done (h:RN L s .normal T H Q):RK L .done s T H Q:=⟨h.h⟩
theorem rk_sk (h:RK L k s (putS d .undef T) H Q):RK L (.sk d k) s T H Q:=⟨h.h⟩
theorem rk_p1 {f:AV->Option AV}{x:O2}{v:AV}(hv:f (x.ev T)=some v) (h:RK L k s (putS d v T) H Q):RK L (.p1 f x d k) s T H Q:=by
 refine ⟨?_⟩;show Comes Q (fun rec=>orec none (fun v=>runK' k L rec (kOf L rec s .normal) (putS d v T) H) (f (x.ev T))) L
 rw [hv];exact h.h
theorem rk_p2 {f:AV->AV->Option AV}{x y:O2}{v:AV}(hv:f (x.ev T) (y.ev T)=some v) (h:RK L k s (putS d v T) H Q):RK L (.p2 f x y d k) s T H Q:=by
 refine ⟨?_⟩;show Comes Q (fun rec=>orec none (fun v=>runK' k L rec (kOf L rec s .normal) (putS d v T) H) (f (x.ev T) (y.ev T))) L
 rw [hv];exact h.h
theorem rk_r1 {f:AV->AH->Option AV}{x:O2}{v:AV}(hv:f (x.ev T) H=some v) (h:RK L k s (putS d v T) H Q):RK L (.r1 f x d k) s T H Q:=by
 refine ⟨?_⟩;show Comes Q (fun rec=>orec none (fun v=>runK' k L rec (kOf L rec s .normal) (putS d v T) H) (f (x.ev T) H)) L
 rw [hv];exact h.h
theorem rk_ln {f:List AV->AH->Option AV}{xs:List O2}{v:AV}(hv:f (evs xs T) H=some v) (h:RK L k s (putS d v T) H Q):RK L (.ln f xs d k) s T H Q:=by
 refine ⟨?_⟩;show Comes Q (fun rec=>orec none (fun v=>runK' k L rec (kOf L rec s .normal) (putS d v T) H) (f (evs xs T) H)) L
 rw [hv];exact h.h
theorem rk_ls {f:List AV->AH->Option AV}{xs:List O2}{o:Oper}{v:AV}(hv:f (evs xs T) H=some v) (h:RK L k s (putS d v T) H Q):RK L (.ls f xs o d k) s T H Q:=by
 refine ⟨?_⟩;show Comes Q (fun rec=>orec (orec none (prodO (fun v H'=>runK' k L rec (kOf L rec s .normal) (putS d v T) H')) (evEnd L T o H)) (fun v=>runK' k L rec (kOf L rec s .normal) (putS d v T) H) (f (evs xs T) H)) L
 rw [hv];exact h.h
theorem rk_hn {w:Bool}{f:List AV->AH->Option (AV×AH)}{xs:List O2}{v:AV}{H':AH}(hv:f (evs xs T) (hIn w H)=some (v,H')) (h:RK L k s (putS d v T) (hOut w H H') Q):RK L (.hn w f xs d k) s T H Q:=by
 refine ⟨?_⟩;show Comes Q (fun rec=>orec none (prodO (fun v H'=>runK' k L rec (kOf L rec s .normal) (putS d v T) (hOut w H H'))) (f (evs xs T) (hIn w H))) L
 rw [hv];exact h.h
theorem rk_gd {sl:Nat}{want c:Bool}{a b:K2}(hx:gT T sl= .bool c) (ha:c=want->RK L a s T H Q) (hb:c= !want->RK L b s (putS d .undef T) H Q):RK L (.gd (sOf sl) want d a b) s T H Q:=by
 refine ⟨?_⟩;show Comes Q (fun rec=>brec (runK' b L rec (kOf L rec s .normal) (putS d .undef T) H) (runK' a L rec (kOf L rec s .normal) T H) (ztk want ((sOf sl).get T))) L
 rw [zrk];unfold gT at hx;cases hg:T.get sl with
 |none=>rw [hg] at hx;cases hx
 |some v =>
  rw [hg] at hx;have:v= .bool c:=hx;subst this;cases c<;>cases want<;>first|exact (ha rfl).h|exact (hb rfl).h
theorem rk_cl {w:Bool}{f:FuncId}{xs:List O2}{R:AV->AH->Prop}(hc:FnE L f (evs xs T) (hIn w H) R) (h:∀v H',R v H'->RK L k s (putS d v T) (hOut w H H') Q):RK L (.cl w f xs d k) s T H Q:=by
 obtain ⟨v,H',hR,n,hn⟩:=hc.h;obtain ⟨o,hQ,n2,h2⟩:=(h v H' hR).h;refine ⟨o,hQ,max n n2,fun m hm=> ?_⟩
 show orec none (outO (fun v H'=>runK' k L (evF L m) (kOf L (evF L m) s .normal) (putS d v T) (hOut w H H'))) (evF L m (.call f (evs xs T) (hIn w H)))=some o
 rw [hn m oM]
 exact h2 m oM
theorem rk_cw {rd:Option (List S2)}{f:FuncId}{xs:List O2}{js:List Nat}{R:AV->AH->Prop}(hp:ptrsO rd T=some js) (hc:FnE L f (evs xs T) H R) (h:∀v H',R v H'->zwg H H' js=true/\RK L k s (putS d v T) H' Q):RK L (.cw rd f xs d k) s T H Q:=by
 obtain ⟨v,H',hR,n,hn⟩:=hc.h;obtain ⟨hs,hk⟩:=h v H' hR;obtain ⟨o,hQ,n2,h2⟩:=hk.h;refine ⟨o,hQ,max n n2,fun m hm=> ?_⟩
 show orec
  (orec none (outO (fun v H'=>runK' k L (evF L m) (kOf L (evF L m) s .normal) (putS d v T) (hOut true H H'))) (evF L m (.call f (evs xs T) (hIn true H))))
  (fun js=>orec none (outO (fun v H'=>brec none (runK' k L (evF L m) (kOf L (evF L m) s .normal) (putS d v T) H') (zwg H H' js))) (evF L m (.call f (evs xs T) H)))
  (ptrsO rd T)=some o
 rw [hp];show orec none _ (evF L m (.call f (evs xs T) H))=some o
 rw [hn m oM]
 show brec none (runK' k L (evF L m) (kOf L (evF L m) s .normal) (putS d (dflt (Tr.getLo .d0 .d0 (out1 v H').T)) T) H') (zwg H H' js)=some o
 rw [hs];exact h2 m oM
def resV (L:Lk) (rs:List ResultVar) (T:Tr AV) (H:AH):Option AV:=match zmb L T H rs with|some vs=>(match vs with| [v]=>some v|vs=>some (.tup vs))|none=>none
def FnQ (L:Lk) (rs:List ResultVar) (R:AV->AH->Prop):PostC:=fun ex T H=>(ex= .normal\/ex= .ret)/\ ∃v,resV L rs T H=some v/\R v H
theorem ziw (L:Lk) (t:Tmp):resV L [.tmp t] T H=some (gT T t):=by
 unfold resV zmb gT;show (match obind (match T.get t with|some v=>some v|none=>some AV.undef) (fun b=>obind (some []) fun bs=>some (b::bs)) with|some vs=>(match vs with| [v]=>some v|vs=>some (AV.tup vs))|none=>none)=_
 cases T.get t<;>rfl
theorem zbe1 (L:Lk) (t u:Tmp):resV L [.tmp t,.tmp u] T H=some (.tup [gT T t,gT T u]):=by
 unfold resV zmb gT;show (match obind (match T.get t with|some v=>some v|none=>some AV.undef) (fun b=>obind (obind (match T.get u with|some v=>some v|none=>some AV.undef) (fun b=>obind (some []) fun bs=>some (b::bs))) fun bs=>some (b::bs)) with|some vs=>(match vs with| [v]=>some v|vs=>some (AV.tup vs))|none=>none)=_
 cases T.get t<;>cases T.get u<;>rfl
theorem zce1 (L:Lk):resV L [] T H=some (.tup []):=rfl
theorem zjw {rs:List ResultVar}{R:AV->AH->Prop}{v:AV}(hv:resV L rs T H=some v) (h:R v H):FnQ L rs R .ret T H:=⟨.inr rfl,v,hv,h⟩
theorem zde1 {rs:List ResultVar}{R:AV->AH->Prop}{v:AV}(hv:resV L rs T H=some v) (h:R v H):FnQ L rs R .normal T H:=⟨.inl rfl,v,hv,h⟩
theorem zud {f:FuncId}{args:List AV}{nt:Nat}{c:C2}{rs:List ResultVar}{R:AV->AH->Prop}
  (hf:fnF L f=some ⟨nt,c,rs⟩) (hx:L.ext f=none) (hn:Nat.ble (len args) nt=true) (h:RC L c [] (zub args 0 .nil) H (FnQ L rs R)) (hd:L.dfn f=false:=by rfl):FnE L f args H R:=by
 obtain ⟨o,⟨hex,v,hv,hR⟩,n,hm⟩:=h.h;obtain ⟨ex,T1,H1⟩:=o;simp only at hex hv hR;refine ⟨v,H1,hR,n+1,fun m hmn=> ?_⟩
 obtain ⟨m,rfl⟩:∃m',m=m'+1:=⟨m - 1,oM⟩
 have hm:=hm m oM
 show callS L (evF L m) f args H=_
 unfold callS extS;rw [hx];show bodyS L (evF L m) f args H=_
 unfold bodyS;rw [hd];show callF L (evF L m) f args H=_
 have hcode:∃fn body,L.func f=some fn/\fn.body=some body/\c=comp L body:=by
  unfold fnF at hf;cases h1:L.func f with
  |none=>rw [h1] at hf;cases hf
  |some fn =>
   rw [h1] at hf;simp only at hf;cases h2:fn.body with
   |none=>rw [h2] at hf;cases hf
   |some b=>rw [h2] at hf;cases hf;exact ⟨fn,b,rfl,h2,rfl⟩
 obtain ⟨fn,body,_,_,rfl⟩:=hcode;unfold callF;rw [hf];show brec none (evC L (evF L m) (comp L body) (fun ex T H=>exRec (fin2 L rs T H) (fun _=>none) (fin2 L rs T H) (fun _=>none) ex) (zub args 0 .nil) H) (Nat.ble (len args) nt)=_
 rw [hn];simp only [zpm];have h0:evC L (evF L m) (comp L body) (fun ex T H=>some ⟨ex,T,H⟩) (zub args 0 .nil) H=some ⟨ex,T1,H1⟩:=hm
 rw [zcr] at h0 ⊢
 cases he:zzb L (evF L m) body (zub args 0 .nil) H with
 |none=>rw [he] at h0;cases h0
 |some o =>
  rw [he] at h0;obtain ⟨ex',T',H'⟩:=o;simp only [qz1,Out.mk.injEq] at h0;obtain ⟨rfl,rfl,rfl⟩:=h0;have hfin:fin2 L rs T' H'=some (out1 v H'):=by
   unfold fin2;unfold resV at hv;cases hr:zmb L T' H' rs with
   |none=>rw [hr] at hv;cases hv
   |some vs =>
    rw [hr] at hv;rcases vs with _|⟨a,_|⟨b,l⟩⟩<;>(cases hv;rfl)
  rcases hex with rfl|rfl<;>exact hfin
def LpQ (I:Nat->Tr AV->AH->Prop) (R:PostC) (k:Nat):PostC:=fun ex T H=>match ex with| .normal=> ∃k',k'<k/\I k' T H|ex=>R ex T H
theorem lp_ind {body:Code}{c:C2}(hc:comp L body=c) (I:Nat->Tr AV->AH->Prop) (R:PostC) (h:∀k T H,I k T H->RC L c [] T H (LpQ I R k)) :
  ∀k T H,I k T H->LpE L body T H R:=by
 intro k
 induction k using Nat.strongRecOn with
 |_ k ih =>
  intro T H hI;obtain ⟨o,hq,n,hn⟩:=(h k T H hI).h;obtain ⟨ex,T1,H1⟩:=o;subst hc;have step:∀m,n<=m->evF L (m+1) (.loop body T H)=zvd1 (evF L m) body ex T1 H1:=fun m hm=>by
   have h0:evC L (evF L m) (comp L body) (fun ex T H=>some ⟨ex,T,H⟩) T H=some ⟨ex,T1,H1⟩:=hn m hm
   show evC L (evF L m) (comp L body) (zvd1 (evF L m) body) T H=_
   rw [zcr] at h0 ⊢
   cases he:zzb L (evF L m) body T H with
   |none=>rw [he] at h0;cases h0
   |some o =>
    rw [he] at h0;obtain ⟨ex',T',H'⟩:=o;simp only [qz1,Out.mk.injEq] at h0;obtain ⟨rfl,rfl,rfl⟩:=h0;rfl
  cases ex with
  |normal =>
   obtain ⟨k',hk',hI'⟩:=hq;obtain ⟨o2,hR,n2,h2⟩:=(ih k' hk' T1 H1 hI').h;refine ⟨o2,hR,max n n2+1,fun m hm=> ?_⟩
   obtain ⟨m,rfl⟩:∃m',m=m'+1:=⟨m - 1,oM⟩
   show evF L (m+1) (.loop body T H)=_
   rw [step m oM]
   exact h2 m oM
  |_ =>
   refine ⟨_,hq,n+1,fun m hm=> ?_⟩
   obtain ⟨m,rfl⟩:∃m',m=m'+1:=⟨m - 1,oM⟩
   show evF L (m+1) (.loop body T H)=_
   rw [step m oM]
   rfl
end
def bodyN (L:Lk) (f:FuncId):Code:=match L.func f with|some fn=>(match fn.body with|some c=>c|none=>.skip)|none=>.skip
def loopsC (c:Code):List Code :=
 crec (β:=List Code) [] (fun _ _ _=> []) (fun _ _ a b=>a ++ b) (fun _ _ _ a b=>a ++ b) (fun _ _ a=>a) (fun body a=>body::a) (fun _ _ x y a b=>x::y::(a ++ b)) (fun _=> []) (fun _ a=>a) (fun _=> []) (fun _=> []) [] (fun _=> []) c
def regsC (c:Code):List (List Oper) :=
 crec (β:=List (List Oper)) [] (fun _ ops _=> [ops.toList]) (fun _ _ a b=>a ++ b) (fun _ _ _ a b=>a ++ b) (fun _ _ a=>a) (fun _ a=>a) (fun _ _ _ _ a b=>a ++ b) (fun _=> []) (fun _ a=>a) (fun _=> []) (fun _=> []) [] (fun _=> []) c
def lpN (c:Code) (k:Nat):Code:=match nth (loopsC c) k with|some b=>b|none=>.skip
def opN (c:Code) (r i:Nat):Oper:=match nth (regsC c) r with|some l=>(match nth l i with|some o=>o|none=>default)|none=>default
end Go.Ev
end
